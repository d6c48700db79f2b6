import JvmDerived
import JvmDerived.Pilot.@@N@@Statement
import JvmDerived.Pilot.@@N@@Code
set_option linter.unusedVariables false
set_option linter.unusedSimpArgs false
namespace Jvm.Own
open Sem ClassFile Op Lib Jvm.Stand Jvm.Free Jvm.LawKit Jvm.RoadKit
abbrev AHeap := List (FieldType × List Value)
abbrev Ws := List Jvm.Cond
def rFld (ws : Ws) (own : String) (i : Nat) : Option (String × String × String) :=
  ws.findSome? fun d => match d with
    | .fieldLink o j C n t => if o = own ∧ j = i then some (C, n, t) else none
    | _ => none
def rCls (ws : Ws) (own : String) (i : Nat) : Option String :=
  ws.findSome? fun d => match d with
    | .classLink o j C => if o = own ∧ j = i then some C else none
    | _ => none
def rMth (ws : Ws) (own : String) (i : Nat) : Option MethodName :=
  ws.findSome? fun d => match d with
    | .methodLink o j y => if o = own ∧ j = i then some y else none
    | _ => none
def rCon (ws : Ws) (own : String) (i : Nat) : Option Int32 :=
  ws.findSome? fun d => match d with
    | .constant o j v => if o = own ∧ j = i then some v else none
    | _ => none
def rConL (ws : Ws) (own : String) (i : Nat) : Option Int64 :=
  ws.findSome? fun d => match d with
    | .constantLong o j v => if o = own ∧ j = i then some v else none
    | _ => none
def rInst (ws : Ws) (C : String) : Option Nat :=
  ws.findSome? fun d => match d with
    | .instantiable c n => if c = C then some n else none
    | _ => none
def rCode (ws : Ws) (y : MethodName) : Option (ByteArray × Nat × Option FieldType) :=
  ws.findSome? fun d => match d with
    | .code z b m r => if z = y then some (b, m, r) else none
    | _ => none
def hasInit (ws : Ws) (C : String) : Bool := ws.any fun d => match d with | .initialized c => c == C | _ => false
def hasArr (ws : Ws) (t : FieldType) : Bool := ws.any fun d => match d with | .arrayClass c => decide (c = t) | _ => false
def hasStat (ws : Ws) (y : MethodName) : Bool := ws.any fun d => match d with | .static z => decide (z = y) | _ => false
def hasIM (ws : Ws) (y : MethodName) : Bool := ws.any fun d => match d with | .instanceMethod z => decide (z = y) | _ => false
def hasPriv (ws : Ws) (y : MethodName) : Bool := ws.any fun d => match d with | .privateMethod z => decide (z = y) | _ => false
def hasDecl (ws : Ws) (y : MethodName) : Bool := ws.any fun d => match d with | .declares z => decide (z = y) | _ => false
def hasSel (ws : Ws) (y : MethodName) : Bool := ws.any fun d => match d with | .selects c z z' => decide (c = y.cls ∧ z = y ∧ z' = y) | _ => false
def hasLays (ws : Ws) (C n t : String) : Bool := ws.any fun d => match d with | .lays c o n' t' => decide (c = C ∧ o = C ∧ n' = n ∧ t' = t) | _ => false
def hasLaysF (ws : Ws) (C n t : String) : Bool := ws.any fun d => match d with | .laysFinal c o n' t' => decide (c = C ∧ o = C ∧ n' = n ∧ t' = t) | _ => false
def layE (C : String) : Jvm.Cond → Option (String × String)
  | .lays c o n t => if c = C ∧ o = C ∧ (parseFieldDescriptor t).isSome = true then some (n, t) else none
  | .laysFinal c o n t => if c = C ∧ o = C ∧ (parseFieldDescriptor t).isSome = true then some (n, t) else none
  | _ => none
def olay (ws : Ws) (C : String) : List (String × String) := ws.filterMap (layE C)
def idx (x : String × String) : List (String × String) → Option Nat
  | [] => none
  | y :: r => if y = x then some 0 else (idx x r).map (· + 1)
def fidx (ws : Ws) (C n t : String) : Option Nat := idx (n, t) (olay ws C)
def gfR (ws : Ws) (own : String) (i : Nat) : Option (String × Nat) :=
  match rFld ws own i with
  | some (C, n, t) => (fidx ws C n t).map fun j => (C, j)
  | none => none
def pfR (ws : Ws) (own mn : String) (i : Nat) : Option (String × Nat × FieldType) :=
  match rFld ws own i with
  | some (C, n, t) =>
    match fidx ws C n t, parseFieldDescriptor t with
    | some j, some ty => if (hasLays ws C n t || (hasLaysF ws C n t && own == C && mn == "<init>")) && (rInst ws C).isSome && (olay ws C).all (fun q => q.1 != n || q.2 == t) then some (C, j, ty) else none
    | _, _ => none
  | none => none
section Res
variable {ws : Ws} {own C n t : String} {i : Nat} {y : MethodName}
theorem rFld_mem (h : rFld ws own i = some (C, n, t)) : Jvm.Cond.fieldLink own i C n t ∈ ws := by
  obtain ⟨d, hd, e⟩ := List.exists_of_findSome?_eq_some h
  split at e
  · split at e
    · rename_i q; obtain ⟨rfl, rfl⟩ := q; cases e; exact hd
    · cases e
  · cases e
theorem rCls_mem (h : rCls ws own i = some C) : Jvm.Cond.classLink own i C ∈ ws := by
  obtain ⟨d, hd, e⟩ := List.exists_of_findSome?_eq_some h
  split at e
  · split at e
    · rename_i q; obtain ⟨rfl, rfl⟩ := q; cases e; exact hd
    · cases e
  · cases e
theorem rMth_mem (h : rMth ws own i = some y) : Jvm.Cond.methodLink own i y ∈ ws := by
  obtain ⟨d, hd, e⟩ := List.exists_of_findSome?_eq_some h
  split at e
  · split at e
    · rename_i q; obtain ⟨rfl, rfl⟩ := q; cases e; exact hd
    · cases e
  · cases e
theorem rCon_mem {v : Int32} (h : rCon ws own i = some v) : Jvm.Cond.constant own i v ∈ ws := by
  obtain ⟨d, hd, e⟩ := List.exists_of_findSome?_eq_some h
  split at e
  · split at e
    · rename_i q; obtain ⟨rfl, rfl⟩ := q; cases e; exact hd
    · cases e
  · cases e
theorem rConL_mem {v : Int64} (h : rConL ws own i = some v) : Jvm.Cond.constantLong own i v ∈ ws := by
  obtain ⟨d, hd, e⟩ := List.exists_of_findSome?_eq_some h
  split at e
  · split at e
    · rename_i q; obtain ⟨rfl, rfl⟩ := q; cases e; exact hd
    · cases e
  · cases e
theorem rInst_mem {k : Nat} (h : rInst ws C = some k) : Jvm.Cond.instantiable C k ∈ ws := by
  obtain ⟨d, hd, e⟩ := List.exists_of_findSome?_eq_some h
  split at e
  · split at e
    · rename_i q; subst q; cases e; exact hd
    · cases e
  · cases e
theorem rCode_mem {b : ByteArray} {k : Nat} {r : Option FieldType} (h : rCode ws y = some (b, k, r)) : Jvm.Cond.code y b k r ∈ ws := by
  obtain ⟨d, hd, e⟩ := List.exists_of_findSome?_eq_some h
  split at e
  · split at e
    · rename_i q; subst q; cases e; exact hd
    · cases e
  · cases e
theorem hasInit_mem (h : hasInit ws C = true) : Jvm.Cond.initialized C ∈ ws := by
  obtain ⟨d, hd, e⟩ := List.any_eq_true.mp h
  split at e
  · rw [beq_iff_eq] at e; subst e; exact hd
  · cases e
theorem hasArr_mem {ty : FieldType} (h : hasArr ws ty = true) : Jvm.Cond.arrayClass ty ∈ ws := by
  obtain ⟨d, hd, e⟩ := List.any_eq_true.mp h
  split at e
  · have e := of_decide_eq_true e; subst e; exact hd
  · cases e
theorem hasStat_mem (h : hasStat ws y = true) : Jvm.Cond.static y ∈ ws := by
  obtain ⟨d, hd, e⟩ := List.any_eq_true.mp h
  split at e
  · have e := of_decide_eq_true e; subst e; exact hd
  · cases e
theorem hasIM_mem (h : hasIM ws y = true) : Jvm.Cond.instanceMethod y ∈ ws := by
  obtain ⟨d, hd, e⟩ := List.any_eq_true.mp h
  split at e
  · have e := of_decide_eq_true e; subst e; exact hd
  · cases e
theorem hasPriv_mem (h : hasPriv ws y = true) : Jvm.Cond.privateMethod y ∈ ws := by
  obtain ⟨d, hd, e⟩ := List.any_eq_true.mp h
  split at e
  · have e := of_decide_eq_true e; subst e; exact hd
  · cases e
theorem hasDecl_mem (h : hasDecl ws y = true) : Jvm.Cond.declares y ∈ ws := by
  obtain ⟨d, hd, e⟩ := List.any_eq_true.mp h
  split at e
  · have e := of_decide_eq_true e; subst e; exact hd
  · cases e
theorem hasSel_mem (h : hasSel ws y = true) : Jvm.Cond.selects y.cls y y ∈ ws := by
  obtain ⟨d, hd, e⟩ := List.any_eq_true.mp h
  split at e
  · obtain ⟨rfl, rfl, rfl⟩ := of_decide_eq_true e; exact hd
  · cases e
theorem hasLays_mem (h : hasLays ws C n t = true) : Jvm.Cond.lays C C n t ∈ ws := by
  obtain ⟨d, hd, e⟩ := List.any_eq_true.mp h
  split at e
  · obtain ⟨rfl, rfl, rfl, rfl⟩ := of_decide_eq_true e; exact hd
  · cases e
theorem hasLaysF_mem (h : hasLaysF ws C n t = true) : Jvm.Cond.laysFinal C C n t ∈ ws := by
  obtain ⟨d, hd, e⟩ := List.any_eq_true.mp h
  split at e
  · obtain ⟨rfl, rfl, rfl, rfl⟩ := of_decide_eq_true e; exact hd
  · cases e
theorem lay_mem (h : (n, t) ∈ olay ws C) : (Jvm.Cond.lays C C n t ∈ ws ∨ Jvm.Cond.laysFinal C C n t ∈ ws) ∧ ∃ ty, parseFieldDescriptor t = some ty := by
  obtain ⟨d, hd, e⟩ := List.mem_filterMap.mp h
  unfold layE at e
  split at e
  · split at e
    · rename_i q; obtain ⟨rfl, rfl, q⟩ := q; cases e; exact ⟨Or.inl hd, Option.isSome_iff_exists.mp q⟩
    · cases e
  · split at e
    · rename_i q; obtain ⟨rfl, rfl, q⟩ := q; cases e; exact ⟨Or.inr hd, Option.isSome_iff_exists.mp q⟩
    · cases e
  · cases e
theorem idx_get {x : String × String} : ∀ {l : List (String × String)} {j : Nat}, idx x l = some j → l[j]? = some x
  | [], _, h => by cases h
  | y :: r, j, h => by
    unfold idx at h
    split at h
    · rename_i q; cases h; simp [q]
    · obtain ⟨j', h', rfl⟩ := Option.map_eq_some_iff.mp h
      simpa using idx_get h'
theorem fidx_mem {j : Nat} (h : fidx ws C n t = some j) : (n, t) ∈ olay ws C := List.mem_of_getElem? (idx_get h)
theorem fidx_inj {n' t' : String} {j : Nat} (h : fidx ws C n t = some j) (h' : fidx ws C n' t' = some j) : n = n' ∧ t = t' := by
  have := (idx_get h).symm.trans (idx_get h')
  simpa using this
theorem gfR_some {j : Nat} (h : gfR ws own i = some (C, j)) : ∃ n t, rFld ws own i = some (C, n, t) ∧ fidx ws C n t = some j := by
  unfold gfR at h
  split at h
  · rename_i C' n' t' q
    obtain ⟨j', h', e⟩ := Option.map_eq_some_iff.mp h
    cases e; exact ⟨_, _, q, h'⟩
  · cases h
theorem pfR_some {mn : String} {j : Nat} {ty : FieldType} (h : pfR ws own mn i = some (C, j, ty)) : ∃ n t, rFld ws own i = some (C, n, t) ∧ fidx ws C n t = some j ∧ parseFieldDescriptor t = some ty ∧
    (Jvm.Cond.lays C C n t ∈ ws ∨ (Jvm.Cond.laysFinal C C n t ∈ ws ∧ own = C ∧ mn = "<init>")) ∧ (∃ k, Jvm.Cond.instantiable C k ∈ ws) ∧ ∀ n' t', (n', t') ∈ olay ws C → n' ≠ n ∨ t' = t := by
  unfold pfR at h
  split at h
  · rename_i C' n' t' q
    split at h
    · rename_i j' ty' q1 q2
      split at h
      · rename_i g
        cases h
        simp only [Bool.and_eq_true, Bool.or_eq_true, beq_iff_eq, List.all_eq_true, bne_iff_ne, ne_eq] at g
        obtain ⟨⟨g1, g2⟩, g3⟩ := g
        obtain ⟨k, hk⟩ := Option.isSome_iff_exists.mp g2
        refine ⟨n', t', q, q1, q2, ?_, ⟨k, rInst_mem hk⟩, fun a b hab => g3 (a, b) hab⟩
        rcases g1 with g1 | ⟨⟨g1, g4⟩, g5⟩
        · exact Or.inl (hasLays_mem g1)
        · exact Or.inr ⟨hasLaysF_mem g1, g4, g5⟩
      · cases h
    · cases h
  · cases h
end Res
end Jvm.Own
namespace Jvm.Own
open Sem ClassFile Op Lib Jvm.Stand Jvm.Free Jvm.LawKit Jvm.RoadKit
abbrev XR := Option (Nat × List Slot × List Value)
def chk {α : Type} (a b : Nat) (x : Option α) : Option α := if a = b then x else none
def isI : Value → Bool | .int _ => true | _ => false
def isL : Value → Bool | .long _ => true | _ => false
def stl (ls : List Slot) (i : Nat) (v : Value) : Option (List Slot) := (storeLocals ls.toArray i v).map Array.toList
def ldV (p : Value → Bool) (nx i : Nat) (ls : List Slot) (st : List Value) : XR :=
  match ls[i]? with
  | some (.val v) => if p v = true then some (nx, ls, v :: st) else none
  | _ => none
def stV (p : Value → Bool) (nx i : Nat) (ls : List Slot) : List Value → XR
  | v :: r => if p v = true then (stl ls i v).map fun l' => (nx, l', r) else none
  | [] => none
def b2 (f : Int32 → Int32 → Int32) (nx : Nat) (ls : List Slot) : List Value → XR
  | .int y :: .int x :: r => some (nx, ls, .int (f x y) :: r)
  | _ => none
def d2 (f : Int32 → Int32 → Int32) (nx : Nat) (ls : List Slot) : List Value → XR
  | .int y :: .int x :: r => if y = 0 then none else some (nx, ls, .int (f x y) :: r)
  | _ => none
def u1 (f : Int32 → Int32) (nx : Nat) (ls : List Slot) : List Value → XR
  | .int x :: r => some (nx, ls, .int (f x) :: r)
  | _ => none
def l2 (f : Int64 → Int64 → Int64) (nx : Nat) (ls : List Slot) : List Value → XR
  | .long y :: .long x :: r => some (nx, ls, .long (f x y) :: r)
  | _ => none
def lsh (f : Int64 → Int32 → Int64) (nx : Nat) (ls : List Slot) : List Value → XR
  | .int y :: .long x :: r => some (nx, ls, .long (f x y) :: r)
  | _ => none
def jmp (pc : Nat) (o : Int) : Option Nat := if 0 ≤ (pc : Int) + o then some ((pc : Int) + o).toNat else none
def br (c : Bool) (pc : Nat) (o : Int) (ls : List Slot) (r : List Value) : XR :=
  if c = true then (jmp pc o).map fun q => (q, ls, r) else some (pc + 3, ls, r)
def sw (pc : Nat) (dflt low high : Int) (offs : Array Int) (ls : List Slot) : List Value → XR
  | .int i :: r => if i.toInt < low ∨ i.toInt > high then (jmp pc dflt).map fun q => (q, ls, r) else
      match offs[(i.toInt - low).toNat]? with
      | some o => (jmp pc o).map fun q => (q, ls, r)
      | none => none
  | _ => none
def xstep (ins : Instr) (len pc : Nat) (ls : List Slot) (st : List Value) : XR :=
  match ins with
  | .aload_n i => chk len 1 (ldV Value.isRef (pc + 1) i.val ls st)
  | .aload i => chk len 2 (ldV Value.isRef (pc + 2) i ls st)
  | .iload_n i => chk len 1 (ldV isI (pc + 1) i.val ls st)
  | .iload i => chk len 2 (ldV isI (pc + 2) i ls st)
  | .lload_n i => chk len 1 (ldV isL (pc + 1) i.val ls st)
  | .lload i => chk len 2 (ldV isL (pc + 2) i ls st)
  | .astore_n i => chk len 1 (stV Value.isRef (pc + 1) i.val ls st)
  | .astore i => chk len 2 (stV Value.isRef (pc + 2) i ls st)
  | .istore_n i => chk len 1 (stV isI (pc + 1) i.val ls st)
  | .istore i => chk len 2 (stV isI (pc + 2) i ls st)
  | .lstore_n i => chk len 1 (stV isL (pc + 1) i.val ls st)
  | .lstore i => chk len 2 (stV isL (pc + 2) i ls st)
  | .iconst i => chk len 1 (some (pc + 1, ls, .int (Int32.ofInt i) :: st))
  | .bipush i => chk len 2 (some (pc + 2, ls, .int (Int8.ofInt i).toInt32 :: st))
  | .sipush i => chk len 3 (some (pc + 3, ls, .int (Int16.ofInt i).toInt32 :: st))
  | .lconst i => chk len 1 (some (pc + 1, ls, .long (Int64.ofNat i) :: st))
  | .iadd => chk len 1 (b2 (fun x y => x + y) (pc + 1) ls st)
  | .isub => chk len 1 (b2 (fun x y => x - y) (pc + 1) ls st)
  | .imul => chk len 1 (b2 (fun x y => x * y) (pc + 1) ls st)
  | .iand => chk len 1 (b2 (fun x y => x &&& y) (pc + 1) ls st)
  | .ior => chk len 1 (b2 (fun x y => x ||| y) (pc + 1) ls st)
  | .ixor => chk len 1 (b2 (fun x y => x ^^^ y) (pc + 1) ls st)
  | .ishl => chk len 1 (b2 (fun x y => x <<< (y &&& 31)) (pc + 1) ls st)
  | .ishr => chk len 1 (b2 (fun x y => x >>> (y &&& 31)) (pc + 1) ls st)
  | .iushr => chk len 1 (b2 XT.ushr (pc + 1) ls st)
  | .idiv => chk len 1 (d2 (fun x y => x / y) (pc + 1) ls st)
  | .irem => chk len 1 (d2 (fun x y => x % y) (pc + 1) ls st)
  | .ineg => chk len 1 (u1 (fun x => -x) (pc + 1) ls st)
  | .i2b => chk len 1 (u1 (fun x => x.toInt8.toInt32) (pc + 1) ls st)
  | .i2c => chk len 1 (u1 (fun x => x.toUInt32.toUInt16.toUInt32.toInt32) (pc + 1) ls st)
  | .ladd => chk len 1 (l2 (fun x y => x + y) (pc + 1) ls st)
  | .lsub => chk len 1 (l2 (fun x y => x - y) (pc + 1) ls st)
  | .lmul => chk len 1 (l2 (fun x y => x * y) (pc + 1) ls st)
  | .land => chk len 1 (l2 (fun x y => x &&& y) (pc + 1) ls st)
  | .lor => chk len 1 (l2 (fun x y => x ||| y) (pc + 1) ls st)
  | .lxor => chk len 1 (l2 (fun x y => x ^^^ y) (pc + 1) ls st)
  | .lshl => chk len 1 (lsh (fun x y => x <<< (y.toInt64 &&& 63)) (pc + 1) ls st)
  | .lshr => chk len 1 (lsh (fun x y => x >>> (y.toInt64 &&& 63)) (pc + 1) ls st)
  | .lushr => chk len 1 (lsh XT.ushrL (pc + 1) ls st)
  | .lneg => chk len 1 (match st with | .long x :: r => some (pc + 1, ls, .long (-x) :: r) | _ => none)
  | .i2l => chk len 1 (match st with | .int x :: r => some (pc + 1, ls, .long x.toInt64 :: r) | _ => none)
  | .l2i => chk len 1 (match st with | .long x :: r => some (pc + 1, ls, .int x.toInt32 :: r) | _ => none)
  | .lcmp => chk len 1 (match st with | .long y :: .long x :: r => some (pc + 1, ls, .int (XT.cmpL x y) :: r) | _ => none)
  | .iinc i cst => chk len 3 (match ls[i]? with | some (.val (.int x)) => (stl ls i (.int (x + Int32.ofInt cst))).map fun l' => (pc + 3, l', st) | _ => none)
  | .dup => chk len 1 (match st with | x :: r => if x.category = 1 then some (pc + 1, ls, x :: x :: r) else none | _ => none)
  | .dup2 => chk len 1 (match st with
      | .long x :: r => some (pc + 1, ls, .long x :: .long x :: r)
      | x :: y :: r => if x.category = 1 ∧ y.category = 1 then some (pc + 1, ls, x :: y :: x :: y :: r) else none
      | _ => none)
  | .pop => chk len 1 (match st with | x :: r => if x.category = 1 then some (pc + 1, ls, r) else none | _ => none)
  | .goto o => chk len 3 ((jmp pc o).map fun q => (q, ls, st))
  | .ifCond cd o => chk len 3 (match st with | .int x :: r => br (ifCond.holds cd x) pc o ls r | _ => none)
  | .if_icmp cd o => chk len 3 (match st with | .int y :: .int x :: r => br (if_icmp.holds cd x y) pc o ls r | _ => none)
  | .tableswitch dflt low high offs => sw pc dflt low high offs ls st
  | _ => none
abbrev HR := Option (Nat × List Value × AHeap)
def putv : FieldType → Value → Option Value
  | .int, .int x => some (.int x)
  | .boolean, .int x => some (.int (nar .boolean x))
  | .byte, .int x => some (.int (nar .byte x))
  | .char, .int x => some (.int (nar .char x))
  | .short, .int x => some (.int (nar .short x))
  | .long, .long x => some (.long x)
  | .array _, .ref a => some (.ref a)
  | _, _ => none
def dflt (q : String × String) : Value := match parseFieldDescriptor q.2 with | some ty => defaultValue ty | none => .null
def hGet (ws : Ws) (own : String) (i pc : Nat) (H : AHeap) : List Value → HR
  | .ref a :: r =>
    match gfR ws own i, H[a]? with
    | some (C, j), some (.object C', vs) => if C = C' then (vs[j]?).map fun v => (pc + 3, v :: r, H) else none
    | _, _ => none
  | _ => none
def hPut (ws : Ws) (k : Nat) (own mn : String) (i pc : Nat) (H : AHeap) : List Value → HR
  | v :: .ref a :: r =>
    match pfR ws own mn i, H[a]? with
    | some (C, j, ty), some (.object C', vs) => if C = C' ∧ k ≤ a ∧ j < vs.length then (putv ty v).map fun v' => (pc + 3, r, H.set a (.object C', vs.set j v')) else none
    | _, _ => none
  | _ => none
def hNew (ws : Ws) (own : String) (i pc : Nat) (H : AHeap) (st : List Value) : HR :=
  match rCls ws own i with
  | some C => if (rInst ws C).isSome = true ∧ hasInit ws C = true then some (pc + 3, .ref H.length :: st, H ++ [(.object C, (olay ws C).map dflt)]) else none
  | none => none
def hNewA (ws : Ws) (aty : ArrayType) (pc : Nat) (H : AHeap) : List Value → HR
  | .int n :: r => if hasArr ws (newarray.typeOf aty) = true ∧ ¬ n < 0 ∧ n.toNatClampNeg * 8 ≤ 536870912 then
      some (pc + 2, .ref H.length :: r, H ++ [(.array (newarray.typeOf aty), List.replicate n.toNatClampNeg (defaultValue (newarray.typeOf aty)))]) else none
  | _ => none
def hLd (ok : FieldType → Bool) (pc : Nat) (H : AHeap) : List Value → HR
  | .int j :: .ref a :: r =>
    match H[a]? with
    | some (.array ty, vs) => if ok ty = true ∧ ¬ j < 0 then (vs[j.toNatClampNeg]?).map fun v => (pc + 1, v :: r, H) else none
    | _ => none
  | _ => none
def hSt (ok : FieldType → Bool) (k pc : Nat) (H : AHeap) : List Value → HR
  | v :: .int j :: .ref a :: r =>
    match H[a]? with
    | some (.array ty, vs) => if ok ty = true ∧ k ≤ a ∧ ¬ j < 0 ∧ j.toNatClampNeg < vs.length then (putv ty v).map fun v' => (pc + 1, r, H.set a (.array ty, vs.set j.toNatClampNeg v')) else none
    | _ => none
  | _ => none
def hLen (pc : Nat) (H : AHeap) : List Value → HR
  | .ref a :: r =>
    match H[a]? with
    | some (.array _, vs) => some (pc + 1, .int vs.length.toInt32 :: r, H)
    | _ => none
  | _ => none
def okT (t u : FieldType) : Bool := decide (u = t)
def okB (u : FieldType) : Bool := decide (u = .byte) || decide (u = .boolean)
def hstep (ws : Ws) (k : Nat) (y : MethodName) (ins : Instr) (len pc : Nat) (st : List Value) (H : AHeap) : HR :=
  match ins with
  | .getfield i => chk len 3 (hGet ws y.cls i pc H st)
  | .putfield i => chk len 3 (hPut ws k y.cls y.name i pc H st)
  | .new i => chk len 3 (hNew ws y.cls i pc H st)
  | .newarray aty => chk len 2 (hNewA ws aty pc H st)
  | .iaload => chk len 1 (hLd (okT .int) pc H st)
  | .caload => chk len 1 (hLd (okT .char) pc H st)
  | .laload => chk len 1 (hLd (okT .long) pc H st)
  | .baload => chk len 1 (hLd okB pc H st)
  | .iastore => chk len 1 (hSt (okT .int) k pc H st)
  | .castore => chk len 1 (hSt (okT .char) k pc H st)
  | .lastore => chk len 1 (hSt (okT .long) k pc H st)
  | .bastore => chk len 1 (hSt okB k pc H st)
  | .arraylength => chk len 1 (hLen pc H st)
  | .ldc i => chk len 2 ((rCon ws y.cls i).map fun v => (pc + 2, .int v :: st, H))
  | .ldc_w i => chk len 3 ((rCon ws y.cls i).map fun v => (pc + 3, .int v :: st, H))
  | .ldc2_w i => chk len 3 ((rConL ws y.cls i).map fun v => (pc + 3, .long v :: st, H))
  | _ => none
def ent : List Value → List Slot
  | [] => []
  | v :: r => if v.category = 2 then .val v :: .second :: ent r else .val v :: ent r
def entry (as : List Value) (mx : Nat) : List Slot := ent as ++ List.replicate (mx - (ent as).length) .unset
def wsum (st : List Value) : Nat := (st.map fun v => v.category).sum
abbrev Dn := List (MethodName × Nat × Nat)
def dnOf (dn : Dn) (y : MethodName) : Option (Nat × Nat) := dn.findSome? fun q => if q.1 = y then some q.2 else none
def cR (ws : Ws) (dn : Dn) (y : MethodName) (i : Nat) : Option (MethodName × ByteArray × Nat × Option FieldType × Nat × Nat) :=
  match rMth ws y.cls i with
  | none => none
  | some y' =>
    match rCode ws y', dnOf dn y', dnOf dn y, parseMethodDescriptor y'.desc with
    | some (b, mx, r), some (f', l'), some (f, l), some sig =>
      if hasInit ws y'.cls = true ∧ Jvm.plainName y'.cls = true ∧ y'.cls ≠ "java/lang/invoke/MethodHandle" ∧ y'.cls ≠ "java/lang/invoke/VarHandle" ∧ f' + 1 ≤ f ∧ mx + 11 + l' ≤ l then
        some (y', b, mx, r, sig.parameters.length, l - (mx + 11 + l')) else none
    | _, _, _, _ => none
def sR (ws : Ws) (dn : Dn) (y : MethodName) (i : Nat) : Option (MethodName × ByteArray × Nat × Option FieldType × Nat × Nat) :=
  match cR ws dn y i with
  | some q => if hasStat ws q.1 = true then some q else none
  | none => none
def nR (ws : Ws) (dn : Dn) (y : MethodName) (i : Nat) : Option (MethodName × ByteArray × Nat × Option FieldType × Nat × Nat) :=
  match cR ws dn y i with
  | some q => if q.1.name = "<init>" ∧ hasIM ws q.1 = true ∧ q.2.2.2.1 = none then some q else none
  | none => none
def vR (ws : Ws) (dn : Dn) (y : MethodName) (i : Nat) : Option (Bool × MethodName × ByteArray × Nat × Option FieldType × Nat × Nat) :=
  match cR ws dn y i with
  | some q => if hasIM ws q.1 = true then
      (if hasPriv ws q.1 = true ∧ (rInst ws q.1.cls).isSome = true then some (true, q) else if hasDecl ws q.1 = true ∧ hasSel ws q.1 = true then some (false, q) else none) else none
  | none => none
def oR (ws : Ws) (dn : Dn) (y : MethodName) (i : Nat) : Option Nat :=
  match rMth ws y.cls i, rCode ws Lib.objectInit, dnOf dn y with
  | some y', some (b, mx, r), some (f, l) =>
    if y' = Lib.objectInit ∧ hasIM ws Lib.objectInit = true ∧ b.data = #[0xb1] ∧ mx = 1 ∧ r = none ∧ 1 ≤ f ∧ 12 ≤ l then some (l - 12) else none
  | _, _, _ => none
abbrev Call := MethodName × ByteArray × Option FieldType × List Slot × List Value
def cstep (ws : Ws) (dn : Dn) (y : MethodName) (ret : Option FieldType) (ins : Instr) (len pc : Nat) (ls : List Slot) (st : List Value) (H : AHeap) : Option (Option Value ⊕ (Nat × List Slot × List Value × AHeap) ⊕ Call) :=
  match ins with
  | .ireturn => chk len 1 (match st, ret with
      | .int z :: _, some t => if t = .int ∨ t = .boolean ∨ t = .byte ∨ t = .char ∨ t = .short then some (.inl (some (.int (nar t z)))) else none
      | _, _ => none)
  | .lreturn => chk len 1 (match st, ret with
      | [.long z], some .long => some (.inl (some (.long z)))
      | _, _ => none)
  | .return_ => chk len 1 (match st, ret with
      | [], none => some (.inl none)
      | _, _ => none)
  | .invokestatic i => chk len 3 (match sR ws dn y i with
      | some (y', b, mx, r, na, sl) =>
        if na ≤ st.length ∧ wsum (st.drop na) ≤ sl ∧ (ent (st.take na).reverse).length ≤ mx then
          some (.inr (.inr (y', b, r, entry (st.take na).reverse mx, st.drop na)))
        else none
      | none => none)
  | .invokespecial i => chk len 3 (match oR ws dn y i with
      | some sl => (match st with
          | .ref _ :: r => if wsum r ≤ sl then some (.inr (.inl (pc + 3, ls, r, H))) else none
          | _ => none)
      | none => match nR ws dn y i with
        | some (y', b, mx, r, na, sl) =>
          (match st.drop na with
          | .ref a :: rest =>
            if wsum rest ≤ sl ∧ (ent (.ref a :: (st.take na).reverse)).length ≤ mx ∧ na ≤ st.length then
              some (.inr (.inr (y', b, r, entry (.ref a :: (st.take na).reverse) mx, rest)))
            else none
          | _ => none)
        | none => none)
  | .invokevirtual i => chk len 3 (match vR ws dn y i with
      | some (pv, y', b, mx, r, na, sl) =>
        (match st.drop na with
        | .ref a :: rest =>
          (match H[a]? with
          | some (.object C, _) =>
            if (pv = true ∨ C = y'.cls) ∧ wsum rest ≤ sl ∧ (ent (.ref a :: (st.take na).reverse)).length ≤ mx ∧ na ≤ st.length then
              some (.inr (.inr (y', b, r, entry (.ref a :: (st.take na).reverse) mx, rest)))
            else none
          | _ => none)
        | _ => none)
      | none => none)
  | _ => none
def act (ws : Ws) (dn : Dn) (k : Nat) (y : MethodName) (bytes : ByteArray) (ret : Option FieldType) (pc : Nat) (ls : List Slot) (st : List Value) (H : AHeap) : Option (Option Value ⊕ (Nat × List Slot × List Value × AHeap) ⊕ Call) :=
  match decode bytes pc with
  | .error _ => none
  | .ok (ins, len) =>
    match xstep ins len pc ls st with
    | some q => some (.inr (.inl (q.1, q.2.1, q.2.2, H)))
    | none => match hstep ws k y ins len pc st H with
      | some q => some (.inr (.inl (q.1, ls, q.2.1, q.2.2)))
      | none => cstep ws dn y ret ins len pc ls st H
def run (ws : Ws) (dn : Dn) (k : Nat) : Nat → MethodName → ByteArray → Option FieldType → Nat → List Slot → List Value → AHeap → Option (Option Value × AHeap)
  | 0, _, _, _, _, _, _, _ => none
  | n + 1, y, bytes, ret, pc, ls, st, H =>
    match act ws dn k y bytes ret pc ls st H with
    | none => none
    | some (.inl v) => some (v, H)
    | some (.inr (.inl (pc', ls', st', H'))) => run ws dn k n y bytes ret pc' ls' st' H'
    | some (.inr (.inr (y', b, r, en, rest))) =>
      match run ws dn k n y' b r 0 en [] H with
      | some (v, H1) => run ws dn k n y bytes ret (pc + 3) ls (v.toList ++ rest) H1
      | none => none
end Jvm.Own
namespace Jvm.Own
open Sem ClassFile Op Lib Jvm.Stand Jvm.Free Jvm.LawKit Jvm.RoadKit
def ren (f : Nat → Nat) : Value → Value
  | .ref a => .ref (f a)
  | v => v
def renS (f : Nat → Nat) : Slot → Slot
  | .val v => .val (ren f v)
  | s => s
abbrev fr (f : Nat → Nat) (m : MethodId) (pc : Nat) (ls : List Slot) (st : List Value) : JFrame := mkF m pc (ls.map (renS f)).toArray (st.map (ren f))
theorem ren_cat (f : Nat → Nat) (v : Value) : (ren f v).category = v.category := by cases v <;> rfl
theorem ren_isRef (f : Nat → Nat) (v : Value) : (ren f v).isRef = v.isRef := by cases v <;> rfl
theorem isI_int {v : Value} (h : isI v = true) : ∃ x, v = .int x := by cases v <;> first | exact ⟨_, rfl⟩ | cases h
theorem isL_long {v : Value} (h : isL v = true) : ∃ x, v = .long x := by cases v <;> first | exact ⟨_, rfl⟩ | cases h
theorem chk_some {α : Type} {a b : Nat} {x : Option α} {r : α} (h : chk a b x = some r) : a = b ∧ x = some r := by
  unfold chk at h
  split at h
  · exact ⟨by assumption, h⟩
  · cases h
theorem loc_get {f : Nat → Nat} {ls : List Slot} {i : Nat} {s : Slot} (h : ls[i]? = some s) : ((ls.map (renS f)).toArray)[i]? = some (renS f s) := by
  rw [List.getElem?_toArray, List.getElem?_map, h]; rfl
theorem setAt_ren (f : Nat → Nat) (l : Array Slot) (i : Nat) (x : Slot) : setAt (l.map (renS f)) i (renS f x) = (setAt l i x).map fun a => a.map (renS f) := by
  unfold setAt
  rw [Array.size_map]
  split
  · rw [Option.map_some, Array.map_setIfInBounds]
  · rfl
theorem storeSelf_ren (f : Nat → Nat) (l : Array Slot) (i : Nat) (v : Value) : storeSelf (l.map (renS f)) i (ren f v) = (storeSelf l i v).map fun a => a.map (renS f) := by
  have h0 : setAt (l.map (renS f)) i (.val (ren f v)) = _ := setAt_ren f l i (.val v)
  simp only [storeSelf, h0, ren_cat]
  cases setAt l i (.val v) with
  | none => rfl
  | some l1 =>
    simp only [Option.map_some, Option.bind_eq_bind, Option.bind_some, bind_pure_comp]
    split
    · rw [Array.getElem?_map]
      cases l1[i + 1]? with
      | none => rfl
      | some s =>
        simp only [Option.map_some, Option.bind_some]
        cases s with
        | unset => exact setAt_ren f l1 (i + 1) .second
        | second => exact setAt_ren f l1 (i + 1) .second
        | val w =>
          simp only [renS, ren_cat]
          split
          · have h1 : setAt (l1.map (renS f)) (i + 2) .unset = _ := setAt_ren f l1 (i + 2) .unset
            rw [h1]
            cases setAt l1 (i + 2) .unset with
            | none => rfl
            | some l2 => exact setAt_ren f l2 (i + 1) .second
          · exact setAt_ren f l1 (i + 1) .second
    · rfl
theorem storeLocals_ren (f : Nat → Nat) (l : Array Slot) (i : Nat) (v : Value) : storeLocals (l.map (renS f)) i (ren f v) = (storeLocals l i v).map fun a => a.map (renS f) := by
  simp only [storeLocals, Array.getElem?_map]
  cases l[i]? with
  | none => rfl
  | some s =>
    simp only [Option.map_some, Option.bind_eq_bind, Option.bind_some]
    cases s with
    | unset => exact storeSelf_ren f l i v
    | second =>
      have h1 : setAt (l.map (renS f)) (i - 1) .unset = _ := setAt_ren f l (i - 1) .unset
      simp only [renS, h1]
      cases setAt l (i - 1) .unset with
      | none => rfl
      | some l2 => exact storeSelf_ren f l2 i v
    | val w =>
      simp only [renS, ren_cat]
      split
      · have h1 : setAt (l.map (renS f)) (i + 1) .unset = _ := setAt_ren f l (i + 1) .unset
        rw [h1]
        cases setAt l (i + 1) .unset with
        | none => rfl
        | some l2 => exact storeSelf_ren f l2 i v
      · exact storeSelf_ren f l i v
theorem stl_ren {f : Nat → Nat} {ls l' : List Slot} {i : Nat} {v : Value} (h : stl ls i v = some l') : storeLocals (ls.map (renS f)).toArray i (ren f v) = some (l'.map (renS f)).toArray := by
  unfold stl at h
  obtain ⟨a, ha, rfl⟩ := Option.map_eq_some_iff.mp h
  have := storeLocals_ren f ls.toArray i v
  rw [ha] at this
  rw [← List.map_toArray, this]
  simp [← Array.toList_inj]
theorem setAt_size {l l' : Array Slot} {i : Nat} {x : Slot} (h : setAt l i x = some l') : l'.size = l.size := by
  unfold setAt at h
  split at h
  · cases h; simp
  · cases h
theorem storeSelf_size {l l' : Array Slot} {i : Nat} {v : Value} (h : storeSelf l i v = some l') : l'.size = l.size := by
  simp only [storeSelf, Option.bind_eq_bind, Option.bind_eq_some_iff] at h
  obtain ⟨l1, h1, h⟩ := h
  have e1 := setAt_size h1
  split at h
  · obtain ⟨s, -, h⟩ := Option.bind_eq_some_iff.mp h
    split at h
    · split at h
      · obtain ⟨l2, h2, h⟩ := Option.bind_eq_some_iff.mp h
        rw [setAt_size h, setAt_size h2, e1]
      · rw [setAt_size h, e1]
    · rw [setAt_size h, e1]
  · cases h; exact e1
theorem storeLocals_size {l l' : Array Slot} {i : Nat} {v : Value} (h : storeLocals l i v = some l') : l'.size = l.size := by
  simp only [storeLocals, Option.bind_eq_bind, Option.bind_eq_some_iff] at h
  obtain ⟨s, -, h⟩ := h
  split at h
  · obtain ⟨l2, h2, h⟩ := Option.bind_eq_some_iff.mp h
    rw [storeSelf_size h, setAt_size h2]
  · split at h
    · obtain ⟨l2, h2, h⟩ := Option.bind_eq_some_iff.mp h
      rw [storeSelf_size h, setAt_size h2]
    · exact storeSelf_size h
  · exact storeSelf_size h
theorem stl_size {ls l' : List Slot} {i : Nat} {v : Value} (h : stl ls i v = some l') : l'.length = ls.length := by
  unfold stl at h
  obtain ⟨a, ha, rfl⟩ := Option.map_eq_some_iff.mp h
  have := storeLocals_size ha
  simpa using this
theorem ldV_some {p : Value → Bool} {nx i : Nat} {ls : List Slot} {st : List Value} {q : Nat × List Slot × List Value} (h : ldV p nx i ls st = some q) : ∃ v, ls[i]? = some (.val v) ∧ p v = true ∧ q = (nx, ls, v :: st) := by
  unfold ldV at h
  split at h
  · rename_i v hv
    split at h
    · cases h; exact ⟨v, hv, by assumption, rfl⟩
    · cases h
  · cases h
theorem stV_some {p : Value → Bool} {nx i : Nat} {ls : List Slot} {st : List Value} {q : Nat × List Slot × List Value} (h : stV p nx i ls st = some q) : ∃ v r l', st = v :: r ∧ p v = true ∧ stl ls i v = some l' ∧ q = (nx, l', r) := by
  unfold stV at h
  split at h
  · split at h
    · obtain ⟨l', h1, h2⟩ := Option.map_eq_some_iff.mp h
      exact ⟨_, _, l', rfl, by assumption, h1, h2.symm⟩
    · cases h
  · cases h
theorem b2_some {f : Int32 → Int32 → Int32} {nx : Nat} {ls : List Slot} {st : List Value} {q : Nat × List Slot × List Value} (h : b2 f nx ls st = some q) : ∃ x y r, st = .int y :: .int x :: r ∧ q = (nx, ls, .int (f x y) :: r) := by
  unfold b2 at h
  split at h
  · cases h; exact ⟨_, _, _, rfl, rfl⟩
  · cases h
theorem d2_some {f : Int32 → Int32 → Int32} {nx : Nat} {ls : List Slot} {st : List Value} {q : Nat × List Slot × List Value} (h : d2 f nx ls st = some q) : ∃ x y r, st = .int y :: .int x :: r ∧ y ≠ 0 ∧ q = (nx, ls, .int (f x y) :: r) := by
  unfold d2 at h
  split at h
  · split at h
    · cases h
    · cases h; exact ⟨_, _, _, rfl, by assumption, rfl⟩
  · cases h
theorem u1_some {f : Int32 → Int32} {nx : Nat} {ls : List Slot} {st : List Value} {q : Nat × List Slot × List Value} (h : u1 f nx ls st = some q) : ∃ x r, st = .int x :: r ∧ q = (nx, ls, .int (f x) :: r) := by
  unfold u1 at h
  split at h
  · cases h; exact ⟨_, _, rfl, rfl⟩
  · cases h
theorem l2_some {f : Int64 → Int64 → Int64} {nx : Nat} {ls : List Slot} {st : List Value} {q : Nat × List Slot × List Value} (h : l2 f nx ls st = some q) : ∃ x y r, st = .long y :: .long x :: r ∧ q = (nx, ls, .long (f x y) :: r) := by
  unfold l2 at h
  split at h
  · cases h; exact ⟨_, _, _, rfl, rfl⟩
  · cases h
theorem lsh_some {f : Int64 → Int32 → Int64} {nx : Nat} {ls : List Slot} {st : List Value} {q : Nat × List Slot × List Value} (h : lsh f nx ls st = some q) : ∃ x y r, st = .int y :: .long x :: r ∧ q = (nx, ls, .long (f x y) :: r) := by
  unfold lsh at h
  split at h
  · cases h; exact ⟨_, _, _, rfl, rfl⟩
  · cases h
theorem jmp_some {pc q : Nat} {o : Int} (h : jmp pc o = some q) : 0 ≤ (pc : Int) + o ∧ ((pc : Int) + o).toNat = q := by
  unfold jmp at h
  split at h
  · cases h; exact ⟨by assumption, rfl⟩
  · cases h
theorem br_some {c : Bool} {pc : Nat} {o : Int} {ls : List Slot} {r : List Value} {q : Nat × List Slot × List Value} (h : br c pc o ls r = some q) : (c = true ∧ ∃ t, 0 ≤ (pc : Int) + o ∧ ((pc : Int) + o).toNat = t ∧ q = (t, ls, r)) ∨ (c = false ∧ q = (pc + 3, ls, r)) := by
  unfold br at h
  split at h
  · obtain ⟨t, h1, h2⟩ := Option.map_eq_some_iff.mp h
    obtain ⟨h3, h4⟩ := jmp_some h1
    exact Or.inl ⟨by assumption, t, h3, h4, h2.symm⟩
  · rename_i hc; cases h; exact Or.inr ⟨by simpa using hc, rfl⟩
section X
variable {tb : Tables} [Ours tb] {e : Env} {below : List Frame} {T target : State} {m : MethodId} {c : Code}
set_option maxHeartbeats 4000000 in
theorem xstep_sound (h : At T m c below) (hx : tb.exec = Jvm.exec) (f : Nat → Nat) {ins : Instr} {len pc : Nat} {ls : List Slot} {st : List Value} {q : Nat × List Slot × List Value}
    (hd : decode c.code pc = .ok (ins, len)) (hs : xstep ins len pc ls st = some q) (hr : Steps tb e below (T.setTop (fr f m q.1 q.2.1 q.2.2)) target) : Steps tb e below (T.setTop (fr f m pc ls st)) target := by
  unfold xstep at hs
  split at hs
  · obtain ⟨rfl, hs⟩ := chk_some hs; obtain ⟨v, h1, h2, rfl⟩ := ldV_some hs
    exact XS.aloadN h hx rfl hd (loc_get h1) (by rw [ren_isRef]; exact h2) hr
  · obtain ⟨rfl, hs⟩ := chk_some hs; obtain ⟨v, h1, h2, rfl⟩ := ldV_some hs
    exact XS.aload h hx rfl hd (loc_get h1) (by rw [ren_isRef]; exact h2) hr
  · obtain ⟨rfl, hs⟩ := chk_some hs; obtain ⟨v, h1, h2, rfl⟩ := ldV_some hs; obtain ⟨x, rfl⟩ := isI_int h2
    exact XS.iloadN h hx rfl hd (loc_get (f := f) h1) hr
  · obtain ⟨rfl, hs⟩ := chk_some hs; obtain ⟨v, h1, h2, rfl⟩ := ldV_some hs; obtain ⟨x, rfl⟩ := isI_int h2
    exact XS.iload h hx rfl hd (loc_get (f := f) h1) hr
  · obtain ⟨rfl, hs⟩ := chk_some hs; obtain ⟨v, h1, h2, rfl⟩ := ldV_some hs; obtain ⟨x, rfl⟩ := isL_long h2
    exact XT.lloadN h hx rfl hd (loc_get (f := f) h1) hr
  · obtain ⟨rfl, hs⟩ := chk_some hs; obtain ⟨v, h1, h2, rfl⟩ := ldV_some hs; obtain ⟨x, rfl⟩ := isL_long h2
    exact XT.lload h hx rfl hd (loc_get (f := f) h1) hr
  · obtain ⟨rfl, hs⟩ := chk_some hs; obtain ⟨v, r, l', rfl, h2, h3, rfl⟩ := stV_some hs
    exact XS.astoreN h hx rfl hd rfl (by rw [ren_isRef]; exact h2) (stl_ren h3) hr
  · obtain ⟨rfl, hs⟩ := chk_some hs; obtain ⟨v, r, l', rfl, h2, h3, rfl⟩ := stV_some hs
    exact XS.astore h hx rfl hd rfl (by rw [ren_isRef]; exact h2) (stl_ren h3) hr
  · obtain ⟨rfl, hs⟩ := chk_some hs; obtain ⟨v, r, l', rfl, h2, h3, rfl⟩ := stV_some hs; obtain ⟨x, rfl⟩ := isI_int h2
    exact XS.istoreN h hx rfl hd rfl (stl_ren (f := f) h3) hr
  · obtain ⟨rfl, hs⟩ := chk_some hs; obtain ⟨v, r, l', rfl, h2, h3, rfl⟩ := stV_some hs; obtain ⟨x, rfl⟩ := isI_int h2
    exact XS.istore h hx rfl hd rfl (stl_ren (f := f) h3) hr
  · obtain ⟨rfl, hs⟩ := chk_some hs; obtain ⟨v, r, l', rfl, h2, h3, rfl⟩ := stV_some hs; obtain ⟨x, rfl⟩ := isL_long h2
    exact XT.lstoreN h hx rfl hd rfl (stl_ren (f := f) h3) hr
  · obtain ⟨rfl, hs⟩ := chk_some hs; obtain ⟨v, r, l', rfl, h2, h3, rfl⟩ := stV_some hs; obtain ⟨x, rfl⟩ := isL_long h2
    exact XT.lstore h hx rfl hd rfl (stl_ren (f := f) h3) hr
  · obtain ⟨rfl, hs⟩ := chk_some hs; cases hs
    exact XS.iconst h hx rfl hd hr
  · obtain ⟨rfl, hs⟩ := chk_some hs; cases hs
    exact XS.bipush h hx rfl hd hr
  · obtain ⟨rfl, hs⟩ := chk_some hs; cases hs
    exact XS.sipush h hx rfl hd hr
  · obtain ⟨rfl, hs⟩ := chk_some hs; cases hs
    exact XT.lconst h hx rfl hd hr
  · obtain ⟨rfl, hs⟩ := chk_some hs; obtain ⟨x, y, r, rfl, rfl⟩ := b2_some hs
    exact XS.iadd h hx rfl hd rfl hr
  · obtain ⟨rfl, hs⟩ := chk_some hs; obtain ⟨x, y, r, rfl, rfl⟩ := b2_some hs
    exact XS.isub h hx rfl hd rfl hr
  · obtain ⟨rfl, hs⟩ := chk_some hs; obtain ⟨x, y, r, rfl, rfl⟩ := b2_some hs
    exact XS.imul h hx rfl hd rfl hr
  · obtain ⟨rfl, hs⟩ := chk_some hs; obtain ⟨x, y, r, rfl, rfl⟩ := b2_some hs
    exact XS.iand h hx rfl hd rfl hr
  · obtain ⟨rfl, hs⟩ := chk_some hs; obtain ⟨x, y, r, rfl, rfl⟩ := b2_some hs
    exact XT.ior h hx rfl hd rfl hr
  · obtain ⟨rfl, hs⟩ := chk_some hs; obtain ⟨x, y, r, rfl, rfl⟩ := b2_some hs
    exact XT.ixor h hx rfl hd rfl hr
  · obtain ⟨rfl, hs⟩ := chk_some hs; obtain ⟨x, y, r, rfl, rfl⟩ := b2_some hs
    exact XT.ishl h hx rfl hd rfl hr
  · obtain ⟨rfl, hs⟩ := chk_some hs; obtain ⟨x, y, r, rfl, rfl⟩ := b2_some hs
    exact XT.ishr h hx rfl hd rfl hr
  · obtain ⟨rfl, hs⟩ := chk_some hs; obtain ⟨x, y, r, rfl, rfl⟩ := b2_some hs
    exact XT.iushr h hx rfl hd rfl hr
  · obtain ⟨rfl, hs⟩ := chk_some hs; obtain ⟨x, y, r, rfl, h2, rfl⟩ := d2_some hs
    exact XS.idiv h hx rfl hd rfl h2 hr
  · obtain ⟨rfl, hs⟩ := chk_some hs; obtain ⟨x, y, r, rfl, h2, rfl⟩ := d2_some hs
    refine XS.irem h hx rfl hd rfl h2 ?_
    have q : x - x / y * y = x % y := irem_eq_mod x y
    rw [q]; exact hr
  · obtain ⟨rfl, hs⟩ := chk_some hs; obtain ⟨x, r, rfl, rfl⟩ := u1_some hs
    exact XS.ineg h hx rfl hd rfl hr
  · obtain ⟨rfl, hs⟩ := chk_some hs; obtain ⟨x, r, rfl, rfl⟩ := u1_some hs
    exact XT.i2b h hx rfl hd rfl hr
  · obtain ⟨rfl, hs⟩ := chk_some hs; obtain ⟨x, r, rfl, rfl⟩ := u1_some hs
    exact XT.i2c h hx rfl hd rfl hr
  · obtain ⟨rfl, hs⟩ := chk_some hs; obtain ⟨x, y, r, rfl, rfl⟩ := l2_some hs
    exact XT.ladd h hx rfl hd rfl hr
  · obtain ⟨rfl, hs⟩ := chk_some hs; obtain ⟨x, y, r, rfl, rfl⟩ := l2_some hs
    exact XT.lsub h hx rfl hd rfl hr
  · obtain ⟨rfl, hs⟩ := chk_some hs; obtain ⟨x, y, r, rfl, rfl⟩ := l2_some hs
    exact XT.lmul h hx rfl hd rfl hr
  · obtain ⟨rfl, hs⟩ := chk_some hs; obtain ⟨x, y, r, rfl, rfl⟩ := l2_some hs
    exact XT.land h hx rfl hd rfl hr
  · obtain ⟨rfl, hs⟩ := chk_some hs; obtain ⟨x, y, r, rfl, rfl⟩ := l2_some hs
    exact XT.lor h hx rfl hd rfl hr
  · obtain ⟨rfl, hs⟩ := chk_some hs; obtain ⟨x, y, r, rfl, rfl⟩ := l2_some hs
    exact XT.lxor h hx rfl hd rfl hr
  · obtain ⟨rfl, hs⟩ := chk_some hs; obtain ⟨x, y, r, rfl, rfl⟩ := lsh_some hs
    exact XT.lshl h hx rfl hd rfl hr
  · obtain ⟨rfl, hs⟩ := chk_some hs; obtain ⟨x, y, r, rfl, rfl⟩ := lsh_some hs
    exact XT.lshr h hx rfl hd rfl hr
  · obtain ⟨rfl, hs⟩ := chk_some hs; obtain ⟨x, y, r, rfl, rfl⟩ := lsh_some hs
    exact XT.lushr h hx rfl hd rfl hr
  · obtain ⟨rfl, hs⟩ := chk_some hs
    split at hs
    · cases hs; exact XT.lneg h hx rfl hd rfl hr
    · cases hs
  · obtain ⟨rfl, hs⟩ := chk_some hs
    split at hs
    · cases hs; exact XT.i2l h hx rfl hd rfl hr
    · cases hs
  · obtain ⟨rfl, hs⟩ := chk_some hs
    split at hs
    · cases hs; exact XT.l2i h hx rfl hd rfl hr
    · cases hs
  · obtain ⟨rfl, hs⟩ := chk_some hs
    split at hs
    · cases hs; exact XT.lcmp h hx rfl hd rfl hr
    · cases hs
  · obtain ⟨rfl, hs⟩ := chk_some hs
    split at hs
    · rename_i x h1
      obtain ⟨l', h2, rfl⟩ := Option.map_eq_some_iff.mp hs
      exact XS.iinc h hx rfl hd (loc_get (f := f) h1) (stl_ren (f := f) h2) hr
    · cases hs
  · obtain ⟨rfl, hs⟩ := chk_some hs
    split at hs
    · split at hs
      · rename_i hc; cases hs; exact XS.dup h hx rfl hd rfl (by rw [ren_cat]; exact hc) hr
      · cases hs
    · cases hs
  · obtain ⟨rfl, hs⟩ := chk_some hs
    split at hs
    · cases hs; exact XT.dup2L h hx rfl hd rfl hr
    · split at hs
      · rename_i hc; cases hs; exact XT.dup2 h hx rfl hd rfl (by rw [ren_cat]; exact hc.1) (by rw [ren_cat]; exact hc.2) hr
      · cases hs
    · cases hs
  · obtain ⟨rfl, hs⟩ := chk_some hs
    split at hs
    · split at hs
      · rename_i hc; cases hs; exact XT.pop h hx rfl hd rfl (by rw [ren_cat]; exact hc) hr
      · cases hs
    · cases hs
  · obtain ⟨rfl, hs⟩ := chk_some hs
    obtain ⟨t, h1, rfl⟩ := Option.map_eq_some_iff.mp hs
    obtain ⟨h2, h3⟩ := jmp_some h1
    exact XS.goto h hx rfl rfl hd h2 h3 hr
  · obtain ⟨rfl, hs⟩ := chk_some hs
    split at hs
    · rcases br_some hs with ⟨hc, t, h1, h2, rfl⟩ | ⟨hc, rfl⟩
      · exact XS.ifYes h hx rfl rfl hd rfl hc h1 h2 hr
      · exact XS.ifNo h hx rfl hd rfl hc hr
    · cases hs
  · obtain ⟨rfl, hs⟩ := chk_some hs
    split at hs
    · rcases br_some hs with ⟨hc, t, h1, h2, rfl⟩ | ⟨hc, rfl⟩
      · exact XS.icmpYes h hx rfl rfl hd rfl hc h1 h2 hr
      · exact XS.icmpNo h hx rfl hd rfl hc hr
    · cases hs
  · unfold sw at hs
    split at hs
    · split at hs
      · rename_i hc
        obtain ⟨t, h1, rfl⟩ := Option.map_eq_some_iff.mp hs
        obtain ⟨h2, h3⟩ := jmp_some h1
        exact XS.tswOut h hx rfl rfl hd rfl hc h2 h3 hr
      · rename_i hc
        split at hs
        · rename_i o ho
          obtain ⟨t, h1, rfl⟩ := Option.map_eq_some_iff.mp hs
          obtain ⟨h2, h3⟩ := jmp_some h1
          exact XS.tswIn h hx rfl rfl hd rfl hc ho h2 h3 hr
        · cases hs
    · cases hs
  · cases hs
end X
theorem xstep_size {ins : Instr} {len pc : Nat} {ls : List Slot} {st : List Value} {q : Nat × List Slot × List Value} (hs : xstep ins len pc ls st = some q) : q.2.1.length = ls.length := by
  unfold xstep at hs
  split at hs
  all_goals first
    | (obtain ⟨rfl, hs⟩ := chk_some hs; obtain ⟨v, h1, h2, rfl⟩ := ldV_some hs; rfl)
    | (obtain ⟨rfl, hs⟩ := chk_some hs; obtain ⟨v, r, l', rfl, h2, h3, rfl⟩ := stV_some hs; exact stl_size h3)
    | (obtain ⟨rfl, hs⟩ := chk_some hs; cases hs; rfl)
    | (obtain ⟨rfl, hs⟩ := chk_some hs; obtain ⟨x, y, r, rfl, rfl⟩ := b2_some hs; rfl)
    | (obtain ⟨rfl, hs⟩ := chk_some hs; obtain ⟨x, y, r, rfl, h2, rfl⟩ := d2_some hs; rfl)
    | (obtain ⟨rfl, hs⟩ := chk_some hs; obtain ⟨x, r, rfl, rfl⟩ := u1_some hs; rfl)
    | (obtain ⟨rfl, hs⟩ := chk_some hs; obtain ⟨x, y, r, rfl, rfl⟩ := l2_some hs; rfl)
    | (obtain ⟨rfl, hs⟩ := chk_some hs; obtain ⟨x, y, r, rfl, rfl⟩ := lsh_some hs; rfl)
    | (obtain ⟨rfl, hs⟩ := chk_some hs; split at hs <;> first | (cases hs; rfl) | (cases hs; done))
    | (obtain ⟨rfl, hs⟩ := chk_some hs; split at hs <;> first | (obtain ⟨l', h2, rfl⟩ := Option.map_eq_some_iff.mp hs; exact stl_size h2) | (cases hs; done))
    | (obtain ⟨rfl, hs⟩ := chk_some hs; split at hs <;> first | (split at hs <;> first | (cases hs; rfl) | (cases hs; done)) | (cases hs; rfl) | (cases hs; done))
    | (obtain ⟨rfl, hs⟩ := chk_some hs; obtain ⟨t, h1, rfl⟩ := Option.map_eq_some_iff.mp hs; rfl)
    | (obtain ⟨rfl, hs⟩ := chk_some hs; split at hs <;> first | (rcases br_some hs with ⟨hc, t, h1, h2, rfl⟩ | ⟨hc, rfl⟩ <;> rfl) | (cases hs; done))
    | (unfold sw at hs; split at hs <;> first | (cases hs; done) | (split at hs <;> first | (obtain ⟨t, h1, rfl⟩ := Option.map_eq_some_iff.mp hs; rfl) | (split at hs <;> first | (obtain ⟨t, h1, rfl⟩ := Option.map_eq_some_iff.mp hs; rfl) | (cases hs; done))))
    | (cases hs; done)
end Jvm.Own
namespace Jvm.Own
open Sem ClassFile Op Lib Jvm.Stand Jvm.Free Jvm.LawKit Jvm.RoadKit
def adr (k sa n0 i : Nat) : Nat := if i < k then sa else n0 + (i - k)
def SimO (Z : State) (ws : Ws) (f : Nat → Nat) (h : Heap) (a : Addr) : FieldType × List Value → Prop
  | (.object C, vs) => Exa Z h a C ∧ ∀ n t j, fidx ws C n t = some j → ∃ v, vs[j]? = some v ∧ Fld Z h a C n t (ren f v)
  | (.array ty, vs) => ∃ c : Cell, Arr Z h a c ty ∧ c.slots = (vs.map (ren f)).toArray
  | _ => False
def Sim (Z : State) (ws : Ws) (k sa n0 : Nat) (H : AHeap) (h : Heap) : Prop :=
  h.size = n0 + (H.length - k) ∧ k ≤ H.length ∧ k ≤ 1 ∧ (1 ≤ k → sa < n0) ∧ ∀ i o, H[i]? = some o → SimO Z ws (adr k sa n0) h (adr k sa n0 i) o
def cost (ws : Ws) : FieldType × List Value → Nat
  | (.object C, _) => (rInst ws C).getD 0
  | (_, vs) => vs.length
def tot (ws : Ws) (H : AHeap) : Nat := (H.map (cost ws)).sum
theorem adr_inj {k sa n0 i j : Nat} (hk : k ≤ 1) (hs : 1 ≤ k → sa < n0) (e : adr k sa n0 i = adr k sa n0 j) : i = j := by
  unfold adr at e; split at e <;> split at e <;> omega
theorem adr_ge {k sa n0 a : Nat} (h : k ≤ a) : n0 ≤ adr k sa n0 a := by
  unfold adr; rw [if_neg (by omega)]; omega
theorem tot_app (ws : Ws) (H : AHeap) (o : FieldType × List Value) : tot ws (H ++ [o]) = tot ws H + cost ws o := by simp [tot]
theorem tot_set {ws : Ws} : ∀ {H : AHeap} {a : Nat} {o o' : FieldType × List Value}, H[a]? = some o → cost ws o' = cost ws o → tot ws (H.set a o') = tot ws H
  | [], _, _, _, h, _ => by cases h
  | x :: r, 0, o, o', h, e => by
    simp only [List.getElem?_cons_zero, Option.some.injEq] at h; subst h
    simp [tot, e]
  | x :: r, a + 1, o, o', h, e => by
    have := tot_set (ws := ws) (H := r) (a := a) (o := o) (o' := o') (by simpa using h) e
    simp only [tot, List.set_cons_succ, List.map_cons, List.sum_cons] at this ⊢
    rw [this]
theorem ren_dflt (f : Nat → Nat) (ty : FieldType) : ren f (defaultValue ty) = defaultValue ty := by cases ty <;> rfl
section Facts
variable {Z : State} {ws : Ws} {f : Nat → Nat} {h h' : Heap} {a b : Addr} {o : FieldType × List Value} {sl : Nat} {v : Value}
theorem SimO.ext (E : Ext h h') (S : SimO Z ws f h a o) : SimO Z ws f h' a o := by
  unfold SimO at S ⊢
  split at S
  · exact ⟨S.1.ext E, fun n t j q => by obtain ⟨v, h1, h2⟩ := S.2 n t j q; exact ⟨v, h1, h2.ext E⟩⟩
  · obtain ⟨c, h1, h2⟩ := S; exact ⟨c, h1.ext E, h2⟩
  · exact S.elim
theorem SimO.other (W : Wr h h' b sl v) (ne : a ≠ b) (S : SimO Z ws f h a o) : SimO Z ws f h' a o := by
  unfold SimO at S ⊢
  split at S
  · exact ⟨S.1.wr W, fun n t j q => by obtain ⟨v, h1, h2⟩ := S.2 n t j q; exact ⟨v, h1, h2.other W (Or.inl ne)⟩⟩
  · obtain ⟨c, h1, h2⟩ := S; exact ⟨c, h1.other W ne, h2⟩
  · exact S.elim
theorem Sim.push {k sa n0 : Nat} {H : AHeap} (S : Sim Z ws k sa n0 H h) (E : Ext h h') (hz : h'.size = h.size + 1) (O : SimO Z ws (adr k sa n0) h' h.size o) : Sim Z ws k sa n0 (H ++ [o]) h' := by
  obtain ⟨h1, h2, h3, h4, h5⟩ := S
  refine ⟨by rw [hz, h1, List.length_append, List.length_singleton]; omega, by rw [List.length_append]; omega, h3, h4, fun i o' q => ?_⟩
  rcases Nat.lt_trichotomy i H.length with g | g | g
  · rw [List.getElem?_append_left g] at q; exact (h5 i o' q).ext E
  · subst g
    rw [List.getElem?_append_right (Nat.le_refl _), Nat.sub_self] at q
    cases q
    have e : adr k sa n0 H.length = h.size := by unfold adr; rw [if_neg (by omega), h1]
    rw [e]; exact O
  · rw [List.getElem?_eq_none (by simp; omega)] at q; cases q
theorem Sim.next {k sa n0 : Nat} {H : AHeap} (S : Sim Z ws k sa n0 H h) : h.size = adr k sa n0 H.length := by
  obtain ⟨h1, h2, -⟩ := S
  unfold adr; rw [if_neg (by omega), h1]
theorem Wr.upd {k sa n0 i : Nat} {H : AHeap} {o' : FieldType × List Value} (S : Sim Z ws k sa n0 H h) (W : Wr h h' (adr k sa n0 i) sl v) (O : SimO Z ws (adr k sa n0) h' (adr k sa n0 i) o') : Sim Z ws k sa n0 (H.set i o') h' := by
  obtain ⟨h1, h2, h3, h4, h5⟩ := S
  refine ⟨by rw [W.size, h1, List.length_set], by rw [List.length_set]; exact h2, h3, h4, fun j q hq => ?_⟩
  by_cases e : i = j
  · subst e
    rw [List.getElem?_set_self' ] at hq
    cases hi : H[i]? with
    | none => rw [hi] at hq; cases hq
    | some x => rw [hi] at hq; cases hq; exact O
  · rw [List.getElem?_set_ne e] at hq
    exact (h5 j q hq).other W fun g => e (adr_inj h3 h4 g).symm
end Facts
theorem putv_ok {ty : FieldType} {v v' : Value} (f : Nat → Nat) (h : putv ty v = some v') : narrow ty (ren f v) = ren f v' ∧ fits ty (ren f v') = true := by
  unfold putv at h
  split at h
  · cases h; exact ⟨rfl, rfl⟩
  · cases h; exact ⟨rfl, fits_nar_bool _⟩
  · cases h; exact ⟨rfl, fits_nar_byte _⟩
  · cases h; exact ⟨rfl, fits_nar_char _⟩
  · cases h; exact ⟨rfl, fits_nar_short _⟩
  · cases h; exact ⟨rfl, rfl⟩
  · cases h; exact ⟨rfl, rfl⟩
  · cases h
theorem size_set (c : Cell) (j : Nat) (v : Value) (f : Nat → Nat) {vs : List Value} {v' : Value} (e : c.slots = (vs.map (ren f)).toArray) (q : v = ren f v') : (c.setSlot j v).slots = ((vs.set j v').map (ren f)).toArray := by
  subst q
  show c.slots.setIfInBounds j (ren f v') = _
  rw [e, List.setIfInBounds_toArray, List.map_set]
section H
variable {p : Program} {l : Launch} {e : Env} {R : Room} {s : State} {m : MethodId} {args : Array Value} {below : List Frame} {meth : Method} {c : Code} {T : State} {locs : List Loc} {cells slots : Nat}
  {Z : State} {a0 : Array Value} {ws : Ws} {k sa n0 : Nat} {y : MethodName} {pc : Nat} {ls : List Slot} {st : List Value} {H : AHeap}
def Beh (p : Program) (l : Launch) (e : Env) (R : Room) (s : State) (m : MethodId) (args : Array Value) (below : List Frame) (meth : Method) (c : Code) (T : State) (Z : State) (ws : Ws) (k sa n0 cells slots : Nat) (H : AHeap) (g : JFrame) (pc' : Nat) (ls' : List Slot) (st' : List Value) (H' : AHeap) : Prop :=
  ∃ T' locs', Stand p l e R s m args below meth c T' locs' (cells + (H'.length - H.length)) (slots + (tot ws H' - tot ws H)) ∧ Sim Z ws k sa n0 H' T'.heap ∧ Fr n0 locs' ∧
    ∀ target, Steps p.tables e below (T'.setTop (fr (adr k sa n0) m pc' ls' st')) target → Steps p.tables e below (T.setTop g) target
theorem Beh.stay {g : JFrame} {pc' : Nat} {st' : List Value} {T' : State} (X : Stand p l e R s m args below meth c T' locs cells slots) (S : Sim Z ws k sa n0 H T'.heap) (N : Fr n0 locs)
    (h : ∀ target, Steps p.tables e below (T'.setTop (fr (adr k sa n0) m pc' ls st')) target → Steps p.tables e below (T.setTop g) target) : Beh p l e R s m args below meth c T Z ws k sa n0 cells slots H g pc' ls st' H :=
  ⟨T', locs, by rw [Nat.sub_self, Nat.sub_self]; exact X, S, N, h⟩
theorem hGet_sound (hw : ∀ d ∈ ws, d.before a0 Z = true) (X : Stand p l e R s m args below meth c T locs cells slots) (hx : p.tables.exec = Jvm.exec) (hZ : Z.Warmed39 s.vm) (hown : s.vm.findClass y.cls = some m.cls)
    {i : Nat} (hd : decode c.code pc = .ok (.getfield i, 3)) {q : Nat × List Value × AHeap} (hs : hGet ws y.cls i pc H st = some q) (S : Sim Z ws k sa n0 H T.heap) (N : Fr n0 locs) :
    Beh p l e R s m args below meth c T Z ws k sa n0 cells slots H (fr (adr k sa n0) m pc ls st) q.1 ls q.2.1 q.2.2 := by
  unfold hGet at hs
  split at hs
  · rename_i a r
    split at hs
    · rename_i C j C' vs q1 q2
      split at hs
      · rename_i hC; subst hC
        obtain ⟨v, hv, rfl⟩ := Option.map_eq_some_iff.mp hs
        obtain ⟨n, t, r1, r2⟩ := gfR_some q1
        obtain ⟨v', hv', F⟩ := (S.2.2.2.2 a _ q2).2 n t j r2
        cases hv.symm.trans hv'
        obtain ⟨T', X', e', st'⟩ := getF X hx hZ hown (host := "") (Or.inl (hw _ (rFld_mem r1))) Via.refl rfl F (g := fr (adr k sa n0) m pc ls (.ref a :: r)) rfl rfl hd
        exact Beh.stay X' (by rw [e']; exact S) N st'
      · cases hs
    · cases hs
  · cases hs
theorem hPut_sound (hw : ∀ d ∈ ws, d.before a0 Z = true) (X : Stand p l e R s m args below meth c T locs cells slots) (hx : p.tables.exec = Jvm.exec) (hZ : Z.Warmed39 s.vm) (hown : s.vm.findClass y.cls = some m.cls) (hnm : meth.name = y.name)
    {i : Nat} (hd : decode c.code pc = .ok (.putfield i, 3)) {q : Nat × List Value × AHeap} (hs : hPut ws k y.cls y.name i pc H st = some q) (S : Sim Z ws k sa n0 H T.heap) (N : Fr n0 locs) :
    Beh p l e R s m args below meth c T Z ws k sa n0 cells slots H (fr (adr k sa n0) m pc ls st) q.1 ls q.2.1 q.2.2 := by
  unfold hPut at hs
  split at hs
  · rename_i v a r
    split at hs
    · rename_i C j ty C' vs q1 q2
      split at hs
      · rename_i hC; obtain ⟨rfl, hk, hj⟩ := hC
        obtain ⟨v', hv, rfl⟩ := Option.map_eq_some_iff.mp hs
        obtain ⟨n, t, r1, r2, r3, r4, ⟨ki, r5⟩, r6⟩ := pfR_some q1
        have SO := S.2.2.2.2 a _ q2
        obtain ⟨w, hw', F⟩ := SO.2 n t j r2
        obtain ⟨g1, g2⟩ := putv_ok (adr k sa n0) hv
        obtain ⟨T', h', X', e', W, st'⟩ := putFN X hx hZ hown (hw _ (rFld_mem r1)) Via.refl rfl F SO.1 (r4.imp (fun q => hw _ q) fun q => ⟨hw _ q.1, q.2.1, hnm.trans q.2.2⟩) (hw _ r5) r3 g1 g2 (g := fr (adr k sa n0) m pc ls (v :: .ref a :: r)) rfl rfl hd
        have LL : ∀ {n' t' : String}, (n', t') ∈ olay ws C → Laid Z a0 C C n' t' := fun q => (lay_mem q).1.imp (fun q => hw _ q) (fun q => hw _ q)
        have O' : SimO Z ws (adr k sa n0) h' (adr k sa n0 a) (.object C, vs.set j v') := by
          refine ⟨SO.1.wr W, fun n' t' j' q' => ?_⟩
          obtain ⟨u, hu, F'⟩ := SO.2 n' t' j' q'
          by_cases ej : j = j'
          · subst ej
            obtain ⟨rfl, rfl⟩ := fidx_inj r2 q'
            exact ⟨v', by rw [List.getElem?_set_self hj], F.same W⟩
          · refine ⟨u, by rw [List.getElem?_set_ne ej]; exact hu, F'.other W (Or.inr ?_)⟩
            obtain ⟨-, ty', p'⟩ := lay_mem (fidx_mem q')
            refine slot_ne (LL (fidx_mem q')) (LL (fidx_mem r2)) (fun en => ?_) p' r3
            rcases r6 n' t' (fidx_mem q') with g | g
            · exact g en
            · subst en g; rw [r2] at q'; exact ej (Option.some.inj q')
        refine ⟨T', _, ?_, by rw [e']; exact Wr.upd S W O', Fr.snoc X' N (adr_ge hk), st'⟩
        show Stand p l e R s m args below meth c T' _ (cells + ((H.set a (.object C, vs.set j v')).length - H.length)) (slots + (tot ws (H.set a (.object C, vs.set j v')) - tot ws H))
        rw [List.length_set, tot_set (o := (.object C, vs)) (o' := (.object C, vs.set j v')) q2 rfl, Nat.sub_self, Nat.sub_self]
        exact X'
      · cases hs
    · cases hs
  · cases hs
theorem hNew_sound (hw : ∀ d ∈ ws, d.before a0 Z = true) (X : Stand p l e R s m args below meth c T locs cells slots) (hx : p.tables.exec = Jvm.exec) (hZ : Z.Warmed39 s.vm) (hown : s.vm.findClass y.cls = some m.cls)
    {i : Nat} (hd : decode c.code pc = .ok (.new i, 3)) {q : Nat × List Value × AHeap} (hs : hNew ws y.cls i pc H st = some q) (S : Sim Z ws k sa n0 H T.heap) (N : Fr n0 locs)
    (hc : cells + (q.2.2.length - H.length) ≤ R.cells) (hl : slots + (tot ws q.2.2 - tot ws H) ≤ R.slots) (hz0 : T.heap.size = s.heap.size + cells) :
    Beh p l e R s m args below meth c T Z ws k sa n0 cells slots H (fr (adr k sa n0) m pc ls st) q.1 ls q.2.1 q.2.2 := by
  unfold hNew at hs
  split at hs
  · rename_i C q1
    split at hs
    · rename_i g; cases hs
      obtain ⟨ki, hki⟩ := Option.isSome_iff_exists.mp g.1
      have ec : (H ++ [(FieldType.object C, (olay ws C).map dflt)]).length - H.length = 1 := by simp
      have es : tot ws (H ++ [(FieldType.object C, (olay ws C).map dflt)]) - tot ws H = ki := by
        rw [tot_app]; simp [cost, hki]
      dsimp only at hc hl ⊢
      rw [ec] at hc; rw [es] at hl
      have hz := S.next
      obtain ⟨T', h', X', e', E, A, D, -, st'⟩ := newO X hx hZ hown (hw _ (rCls_mem q1)) (hw _ (rInst_mem hki)) (hw _ (hasInit_mem g.2)) rfl (g := fr (adr k sa n0) m pc ls st) rfl hd hc hl
      have hz' : h'.size = T.heap.size + 1 := by
        have u1 := X'.heapSize
        have a1 : (T.heap.size : Nat) < h'.size := A.lt
        rw [e'] at u1
        omega
      refine ⟨T', locs, by rw [ec, es]; exact X', ?_, N, ?_⟩
      · rw [e']
        refine S.push E hz' ⟨A, fun n t j q => ?_⟩
        have hm := fidx_mem q
        obtain ⟨q2, ty, q3⟩ := lay_mem hm
        refine ⟨dflt (n, t), by rw [List.getElem?_map, idx_get q]; rfl, ?_⟩
        have F := D (O := C) (nm := n) (d := t) (q2.imp (fun q => hw _ q) (fun q => hw _ q)) q3
        have e3 : ren (adr k sa n0) (dflt (n, t)) = defaultValue ty := by simp only [dflt, q3, ren_dflt]
        rw [e3]; exact F
      · intro target ht
        rw [hz] at st'
        exact st' target ht
    · cases hs
  · cases hs
theorem hNewA_sound (hw : ∀ d ∈ ws, d.before a0 Z = true) (X : Stand p l e R s m args below meth c T locs cells slots) (hx : p.tables.exec = Jvm.exec) (hZ : Z.Warmed39 s.vm)
    {aty : ArrayType} (hd : decode c.code pc = .ok (.newarray aty, 2)) {q : Nat × List Value × AHeap} (hs : hNewA ws aty pc H st = some q) (S : Sim Z ws k sa n0 H T.heap) (N : Fr n0 locs)
    (hc : cells + (q.2.2.length - H.length) ≤ R.cells) (hl : slots + (tot ws q.2.2 - tot ws H) ≤ R.slots) (hz0 : T.heap.size = s.heap.size + cells) :
    Beh p l e R s m args below meth c T Z ws k sa n0 cells slots H (fr (adr k sa n0) m pc ls st) q.1 ls q.2.1 q.2.2 := by
  unfold hNewA at hs
  split at hs
  · rename_i n r
    split at hs
    · rename_i g; cases hs
      obtain ⟨g1, g2, g3⟩ := g
      have ec : (H ++ [(FieldType.array (newarray.typeOf aty), List.replicate n.toNatClampNeg (defaultValue (newarray.typeOf aty)))]).length - H.length = 1 := by simp
      have es : tot ws (H ++ [(FieldType.array (newarray.typeOf aty), List.replicate n.toNatClampNeg (defaultValue (newarray.typeOf aty)))]) - tot ws H = n.toNatClampNeg := by
        rw [tot_app]; simp [cost]
      dsimp only at hc hl ⊢
      rw [ec] at hc; rw [es] at hl
      have hz := S.next
      obtain ⟨T', h', cA, X', e', E, A, st'⟩ := newP X hx hZ (hw _ (hasArr_mem g1)) rfl (g := fr (adr k sa n0) m pc ls (.int n :: r)) rfl hd rfl g2 (cap := n.toNatClampNeg) (Nat.le_refl _) g3 hc hl
      have hz' : h'.size = T.heap.size + 1 := by
        have u1 := X'.heapSize
        have a1 : (T.heap.size : Nat) < h'.size := A.lt
        rw [e'] at u1
        omega
      refine ⟨T', locs, by rw [ec, es]; exact X', ?_, N, ?_⟩
      · rw [e']
        refine S.push E hz' ⟨_, A, ?_⟩
        simp [newA, ren_dflt]
      · intro target ht
        rw [hz] at st'
        exact st' target ht
    · cases hs
  · cases hs
theorem hLd_some {ok : FieldType → Bool} {q : Nat × List Value × AHeap} (hs : hLd ok pc H st = some q) : ∃ j a r ty vs v, st = .int j :: .ref a :: r ∧ H[a]? = some (.array ty, vs) ∧ ok ty = true ∧ ¬ j < 0 ∧ vs[j.toNatClampNeg]? = some v ∧ q = (pc + 1, v :: r, H) := by
  unfold hLd at hs
  split at hs
  · split at hs
    · split at hs
      · rename_i g
        obtain ⟨v, h1, h2⟩ := Option.map_eq_some_iff.mp hs
        exact ⟨_, _, _, _, _, v, rfl, by assumption, g.1, g.2, h1, h2.symm⟩
      · cases hs
    · cases hs
  · cases hs
theorem hSt_some {ok : FieldType → Bool} {q : Nat × List Value × AHeap} (hs : hSt ok k pc H st = some q) : ∃ v j a r ty vs v', st = v :: .int j :: .ref a :: r ∧ H[a]? = some (.array ty, vs) ∧ ok ty = true ∧ k ≤ a ∧ ¬ j < 0 ∧ j.toNatClampNeg < vs.length ∧ putv ty v = some v' ∧ q = (pc + 1, r, H.set a (.array ty, vs.set j.toNatClampNeg v')) := by
  unfold hSt at hs
  split at hs
  · split at hs
    · split at hs
      · rename_i g
        obtain ⟨v, h1, h2⟩ := Option.map_eq_some_iff.mp hs
        exact ⟨_, _, _, _, _, _, v, rfl, by assumption, g.1, g.2.1, g.2.2.1, g.2.2.2, h1, h2.symm⟩
      · cases hs
    · cases hs
  · cases hs
theorem hLen_some {q : Nat × List Value × AHeap} (hs : hLen pc H st = some q) : ∃ a r ty vs, st = .ref a :: r ∧ H[a]? = some (.array ty, vs) ∧ q = (pc + 1, .int vs.length.toInt32 :: r, H) := by
  unfold hLen at hs
  split at hs
  · split at hs
    · cases hs; exact ⟨_, _, _, _, rfl, by assumption, rfl⟩
    · cases hs
  · cases hs
theorem st_beh {T' : State} {h' : Heap} {a j : Nat} {ty : FieldType} {vs : List Value} {v' : Value} {r : List Value} {g : JFrame} (X' : Stand p l e R s m args below meth c T' (locs ++ [⟨adr k sa n0 a, j⟩]) cells slots) (e' : T'.heap = h') (W : Wr T.heap h' (adr k sa n0 a) j (ren (adr k sa n0) v'))
    (S : Sim Z ws k sa n0 H T.heap) (N : Fr n0 locs) (q2 : H[a]? = some (.array ty, vs)) (hk : k ≤ a)
    (st' : ∀ target, Steps p.tables e below (T'.setTop (fr (adr k sa n0) m (pc + 1) ls r)) target → Steps p.tables e below (T.setTop g) target) :
    Beh p l e R s m args below meth c T Z ws k sa n0 cells slots H g (pc + 1) ls r (H.set a (.array ty, vs.set j v')) := by
  obtain ⟨cl, A, es⟩ := S.2.2.2.2 a _ q2
  refine ⟨T', _, ?_, by rw [e']; exact Wr.upd S W ⟨_, A.same W, size_set cl j _ _ es rfl⟩, Fr.snoc X' N (adr_ge hk), st'⟩
  rw [List.length_set, tot_set (o := (.array ty, vs)) (o' := (.array ty, vs.set j v')) q2 (by simp [cost]), Nat.sub_self, Nat.sub_self]
  exact X'
set_option maxHeartbeats 1000000 in
theorem hstep_sound (hw : ∀ d ∈ ws, d.before a0 Z = true) (X : Stand p l e R s m args below meth c T locs cells slots) (hx : p.tables.exec = Jvm.exec) (hZ : Z.Warmed39 s.vm) (hown : s.vm.findClass y.cls = some m.cls) (hnm : meth.name = y.name)
    {ins : Instr} {len : Nat} (hd : decode c.code pc = .ok (ins, len)) {q : Nat × List Value × AHeap} (hs : hstep ws k y ins len pc st H = some q) (S : Sim Z ws k sa n0 H T.heap) (N : Fr n0 locs)
    (hc : cells + (q.2.2.length - H.length) ≤ R.cells) (hl : slots + (tot ws q.2.2 - tot ws H) ≤ R.slots) (hz0 : T.heap.size = s.heap.size + cells) :
    Beh p l e R s m args below meth c T Z ws k sa n0 cells slots H (fr (adr k sa n0) m pc ls st) q.1 ls q.2.1 q.2.2 := by
  unfold hstep at hs
  split at hs
  · obtain ⟨rfl, hs⟩ := chk_some hs
    exact hGet_sound hw X hx hZ hown hd hs S N
  · obtain ⟨rfl, hs⟩ := chk_some hs
    exact hPut_sound hw X hx hZ hown hnm hd hs S N
  · obtain ⟨rfl, hs⟩ := chk_some hs
    exact hNew_sound hw X hx hZ hown hd hs S N hc hl hz0
  · obtain ⟨rfl, hs⟩ := chk_some hs
    exact hNewA_sound hw X hx hZ hd hs S N hc hl hz0
  · obtain ⟨rfl, hs⟩ := chk_some hs
    obtain ⟨j, a, r, ty, vs, v, rfl, q2, ho, hj, hv, rfl⟩ := hLd_some hs
    obtain rfl : ty = _ := of_decide_eq_true ho
    obtain ⟨cl, A, es⟩ := S.2.2.2.2 a _ q2
    have hlt := (List.getElem?_eq_some_iff.mp hv).1
    exact Beh.stay X S N fun target ht => X.iaload hx (j := j) (v := ren (adr k sa n0) v) A.1 (State.isArrayOf_alike hZ.alike A.2.1) A.2.2 (fun g => g.elim hj fun g => by rw [es] at g; simp at g; omega) (by rw [es, List.getElem?_toArray, List.getElem?_map, hv]; rfl) (g := fr (adr k sa n0) m pc ls (.int j :: .ref a :: r)) rfl rfl hd target ht
  · obtain ⟨rfl, hs⟩ := chk_some hs
    obtain ⟨j, a, r, ty, vs, v, rfl, q2, ho, hj, hv, rfl⟩ := hLd_some hs
    obtain rfl : ty = _ := of_decide_eq_true ho
    obtain ⟨cl, A, es⟩ := S.2.2.2.2 a _ q2
    have hlt := (List.getElem?_eq_some_iff.mp hv).1
    exact Beh.stay X S N fun target ht => X.caload hx (j := j) (v := ren (adr k sa n0) v) A.1 (State.isArrayOf_alike hZ.alike A.2.1) A.2.2 (fun g => g.elim hj fun g => by rw [es] at g; simp at g; omega) (by rw [es, List.getElem?_toArray, List.getElem?_map, hv]; rfl) (g := fr (adr k sa n0) m pc ls (.int j :: .ref a :: r)) rfl rfl hd target ht
  · obtain ⟨rfl, hs⟩ := chk_some hs
    obtain ⟨j, a, r, ty, vs, v, rfl, q2, ho, hj, hv, rfl⟩ := hLd_some hs
    obtain rfl : ty = _ := of_decide_eq_true ho
    obtain ⟨cl, A, es⟩ := S.2.2.2.2 a _ q2
    have hlt := (List.getElem?_eq_some_iff.mp hv).1
    exact Beh.stay X S N fun target ht => X.laload hx (j := j) (v := ren (adr k sa n0) v) A.1 (State.isArrayOf_alike hZ.alike A.2.1) A.2.2 (fun g => g.elim hj fun g => by rw [es] at g; simp at g; omega) (by rw [es, List.getElem?_toArray, List.getElem?_map, hv]; rfl) (g := fr (adr k sa n0) m pc ls (.int j :: .ref a :: r)) rfl rfl hd target ht
  · obtain ⟨rfl, hs⟩ := chk_some hs
    obtain ⟨j, a, r, ty, vs, v, rfl, q2, ho, hj, hv, rfl⟩ := hLd_some hs
    obtain ⟨cl, A, es⟩ := S.2.2.2.2 a _ q2
    have hlt := (List.getElem?_eq_some_iff.mp hv).1
    simp only [okB, Bool.or_eq_true, decide_eq_true_eq] at ho
    rcases ho with rfl | rfl
    · exact Beh.stay X S N fun target ht => X.baloadBytes hx (j := j) (v := ren (adr k sa n0) v) A.1 (State.isArrayOf_alike hZ.alike A.2.1) A.2.2 (fun g => g.elim hj fun g => by rw [es] at g; simp at g; omega) (by rw [es, List.getElem?_toArray, List.getElem?_map, hv]; rfl) (g := fr (adr k sa n0) m pc ls (.int j :: .ref a :: r)) rfl rfl hd target ht
    · exact Beh.stay X S N fun target ht => X.baloadBooleans hx (j := j) (v := ren (adr k sa n0) v) A.1 (State.isArrayOf_alike hZ.alike A.2.1) A.2.2 (fun g => g.elim hj fun g => by rw [es] at g; simp at g; omega) (by rw [es, List.getElem?_toArray, List.getElem?_map, hv]; rfl) (g := fr (adr k sa n0) m pc ls (.int j :: .ref a :: r)) rfl rfl hd target ht
  · obtain ⟨rfl, hs⟩ := chk_some hs
    obtain ⟨v, j, a, r, ty, vs, v', rfl, q2, ho, hk, hj, hlt, hv, rfl⟩ := hSt_some hs
    obtain rfl : ty = _ := of_decide_eq_true ho
    obtain ⟨cl, A, es⟩ := S.2.2.2.2 a _ q2
    cases v <;> simp only [putv, Option.some.injEq, reduceCtorEq] at hv
    subst hv
    obtain ⟨T', h', X', e', W, st'⟩ := stI X hx hZ rfl A (j := j) (fun g => g.elim hj fun g => by rw [es] at g; simp at g; omega) (g := fr (adr k sa n0) m pc ls (.int _ :: .int j :: .ref a :: r)) rfl rfl hd
    exact st_beh X' e' W S N q2 hk st'
  · obtain ⟨rfl, hs⟩ := chk_some hs
    obtain ⟨v, j, a, r, ty, vs, v', rfl, q2, ho, hk, hj, hlt, hv, rfl⟩ := hSt_some hs
    obtain rfl : ty = _ := of_decide_eq_true ho
    obtain ⟨cl, A, es⟩ := S.2.2.2.2 a _ q2
    cases v <;> simp only [putv, Option.some.injEq, reduceCtorEq] at hv
    subst hv
    obtain ⟨T', h', X', e', W, st'⟩ := stC X hx hZ rfl A (j := j) (fun g => g.elim hj fun g => by rw [es] at g; simp at g; omega) (g := fr (adr k sa n0) m pc ls (.int _ :: .int j :: .ref a :: r)) rfl rfl hd
    exact st_beh X' e' W S N q2 hk st'
  · obtain ⟨rfl, hs⟩ := chk_some hs
    obtain ⟨v, j, a, r, ty, vs, v', rfl, q2, ho, hk, hj, hlt, hv, rfl⟩ := hSt_some hs
    obtain rfl : ty = _ := of_decide_eq_true ho
    obtain ⟨cl, A, es⟩ := S.2.2.2.2 a _ q2
    cases v <;> simp only [putv, Option.some.injEq, reduceCtorEq] at hv
    subst hv
    obtain ⟨T', h', X', e', W, st'⟩ := stJ X hx hZ rfl A (j := j) (fun g => g.elim hj fun g => by rw [es] at g; simp at g; omega) (g := fr (adr k sa n0) m pc ls (.long _ :: .int j :: .ref a :: r)) rfl rfl hd
    exact st_beh X' e' W S N q2 hk st'
  · obtain ⟨rfl, hs⟩ := chk_some hs
    obtain ⟨v, j, a, r, ty, vs, v', rfl, q2, ho, hk, hj, hlt, hv, rfl⟩ := hSt_some hs
    obtain ⟨cl, A, es⟩ := S.2.2.2.2 a _ q2
    simp only [okB, Bool.or_eq_true, decide_eq_true_eq] at ho
    rcases ho with rfl | rfl
    · cases v <;> simp only [putv, Option.some.injEq, reduceCtorEq] at hv
      subst hv
      obtain ⟨T', h', X', e', W, st'⟩ := stB X hx hZ rfl A (j := j) (fun g => g.elim hj fun g => by rw [es] at g; simp at g; omega) (g := fr (adr k sa n0) m pc ls (.int _ :: .int j :: .ref a :: r)) rfl rfl hd
      exact st_beh X' e' W S N q2 hk st'
    · cases v <;> simp only [putv, Option.some.injEq, reduceCtorEq] at hv
      subst hv
      obtain ⟨T', h', X', e', W, st'⟩ := stZ X hx hZ rfl A (j := j) (fun g => g.elim hj fun g => by rw [es] at g; simp at g; omega) (g := fr (adr k sa n0) m pc ls (.int _ :: .int j :: .ref a :: r)) rfl rfl hd
      exact st_beh X' e' W S N q2 hk st'
  · obtain ⟨rfl, hs⟩ := chk_some hs
    obtain ⟨a, r, ty, vs, rfl, q2, rfl⟩ := hLen_some hs
    obtain ⟨cl, A, es⟩ := S.2.2.2.2 a _ q2
    have ez : cl.slots.size = vs.length := by rw [es]; simp
    refine Beh.stay X S N fun target ht => X.arraylength hx (cell := cl) A.1 (State.isArrayOf_alike hZ.alike A.2.1) (g := fr (adr k sa n0) m pc ls (.ref a :: r)) rfl rfl hd target ?_
    rw [ez]; exact ht
  · obtain ⟨rfl, hs⟩ := chk_some hs
    obtain ⟨v, hv, rfl⟩ := Option.map_eq_some_iff.mp hs
    exact Beh.stay X S N (X.ldcInt hx hown (mvT hZ (hw _ (rCon_mem hv))) (g := fr (adr k sa n0) m pc ls st) rfl hd)
  · obtain ⟨rfl, hs⟩ := chk_some hs
    obtain ⟨v, hv, rfl⟩ := Option.map_eq_some_iff.mp hs
    exact Beh.stay X S N (X.ldcwInt hx hown (mvT hZ (hw _ (rCon_mem hv))) (g := fr (adr k sa n0) m pc ls st) rfl hd)
  · obtain ⟨rfl, hs⟩ := chk_some hs
    obtain ⟨v, hv, rfl⟩ := Option.map_eq_some_iff.mp hs
    exact Beh.stay X S N (X.ldc2Long hx hown (mvT hZ (hw _ (rConL_mem hv))) (g := fr (adr k sa n0) m pc ls st) rfl hd)
  · cases hs
end H
theorem hstep_size {ws : Ws} {k : Nat} {y : MethodName} {ins : Instr} {len pc : Nat} {st : List Value} {H : AHeap} {q : Nat × List Value × AHeap} (hs : hstep ws k y ins len pc st H = some q) : H.length ≤ q.2.2.length ∧ tot ws H ≤ tot ws q.2.2 := by
  unfold hstep at hs
  split at hs
  · obtain ⟨rfl, hs⟩ := chk_some hs
    unfold hGet at hs
    split at hs
    · split at hs
      · split at hs
        · obtain ⟨v, -, rfl⟩ := Option.map_eq_some_iff.mp hs; exact ⟨Nat.le_refl _, Nat.le_refl _⟩
        · cases hs
      · cases hs
    · cases hs
  · obtain ⟨rfl, hs⟩ := chk_some hs
    unfold hPut at hs
    split at hs
    · split at hs
      · rename_i C j ty C' vs q1 q2
        split at hs
        · obtain ⟨v, -, rfl⟩ := Option.map_eq_some_iff.mp hs
          exact ⟨Nat.le_of_eq (by rw [List.length_set]), Nat.le_of_eq (tot_set (o := (.object C', vs)) (o' := (.object C', vs.set j v)) q2 rfl).symm⟩
        · cases hs
      · cases hs
    · cases hs
  · obtain ⟨rfl, hs⟩ := chk_some hs
    unfold hNew at hs
    split at hs
    · split at hs
      · cases hs; exact ⟨by simp, by rw [tot_app]; omega⟩
      · cases hs
    · cases hs
  · obtain ⟨rfl, hs⟩ := chk_some hs
    unfold hNewA at hs
    split at hs
    · split at hs
      · cases hs; exact ⟨by simp, by rw [tot_app]; omega⟩
      · cases hs
    · cases hs
  all_goals first
    | (obtain ⟨rfl, hs⟩ := chk_some hs; obtain ⟨j, a, r, ty, vs, v, rfl, q2, ho, hj, hv, rfl⟩ := hLd_some hs; exact ⟨Nat.le_refl _, Nat.le_refl _⟩)
    | (obtain ⟨rfl, hs⟩ := chk_some hs; obtain ⟨v, j, a, r, ty, vs, v', rfl, q2, ho, hk, hj, hlt, hv, rfl⟩ := hSt_some hs; exact ⟨Nat.le_of_eq (by rw [List.length_set]), Nat.le_of_eq (tot_set (o := (.array ty, vs)) (o' := (.array ty, vs.set _ v')) q2 (by simp [cost])).symm⟩)
    | (obtain ⟨rfl, hs⟩ := chk_some hs; obtain ⟨a, r, ty, vs, rfl, q2, rfl⟩ := hLen_some hs; exact ⟨Nat.le_refl _, Nat.le_refl _⟩)
    | (obtain ⟨rfl, hs⟩ := chk_some hs; obtain ⟨v, hv, rfl⟩ := Option.map_eq_some_iff.mp hs; exact ⟨Nat.le_refl _, Nat.le_refl _⟩)
    | (cases hs; done)
end Jvm.Own
namespace Jvm.Own
open Sem ClassFile Op Lib Jvm.Stand Jvm.Free Jvm.LawKit Jvm.RoadKit
theorem ent_ren (f : Nat → Nat) : ∀ as : List Value, ent (as.map (ren f)) = (ent as).map (renS f)
  | [] => rfl
  | v :: r => by
    simp only [List.map_cons, ent, ren_cat, ent_ren f r]
    split <;> rfl
theorem fill_eq : ∀ (as : List Value) (acc : Array Slot), as.foldl (fun acc v => if v.category = 2 then (acc.push (.val v)).push .second else acc.push (.val v)) acc = acc ++ (ent as).toArray
  | [], acc => by simp [ent]
  | v :: r, acc => by
    simp only [List.foldl_cons, ent]
    split
    · rw [fill_eq r]; simp [← Array.toList_inj]
    · rw [fill_eq r]; simp [← Array.toList_inj]
theorem entry_eq (f : Nat → Nat) (m : MethodId) (as : List Value) (mx : Nat) : entryFrame m (as.map (ren f)).toArray mx = fr f m 0 (entry as mx) [] := by
  have h : argsToLocals (as.map (ren f)).toArray mx = ((entry as mx).map (renS f)).toArray := by
    unfold argsToLocals entry
    simp only [List.foldl_toArray']
    rw [fill_eq, ent_ren]
    simp [← Array.toList_inj, renS]
  unfold entryFrame
  rw [h]; rfl
theorem entry_len {as : List Value} {mx : Nat} (h : (ent as).length ≤ mx) : (entry as mx).length = mx := by simp [entry]; omega
theorem wsum_ren (f : Nat → Nat) (st : List Value) : ((st.map (ren f)).map fun v => v.category).sum = wsum st := by
  unfold wsum
  rw [List.map_map]
  congr 1
  apply List.map_congr_left
  intro v _
  exact ren_cat f v
section Inv
variable {ws : Ws} {dn : Dn} {k : Nat} {y : MethodName} {bytes : ByteArray} {ret : Option FieldType} {pc : Nat} {ls : List Slot} {st : List Value} {H : AHeap}
theorem cR_some {i : Nat} {y' : MethodName} {b : ByteArray} {mx na sl : Nat} {r : Option FieldType} (h : cR ws dn y i = some (y', b, mx, r, na, sl)) :
    Jvm.Cond.methodLink y.cls i y' ∈ ws ∧ Jvm.Cond.code y' b mx r ∈ ws ∧ Jvm.Cond.initialized y'.cls ∈ ws ∧ Jvm.plainName y'.cls = true ∧ (y'.cls ≠ "java/lang/invoke/MethodHandle" ∧ y'.cls ≠ "java/lang/invoke/VarHandle") ∧ rCode ws y' = some (b, mx, r) ∧
    ∃ f' l' f l sig, dnOf dn y' = some (f', l') ∧ dnOf dn y = some (f, l) ∧ parseMethodDescriptor y'.desc = some sig ∧ na = sig.parameters.length ∧ f' + 1 ≤ f ∧ sl + (mx + 11) + l' ≤ l := by
  unfold cR at h
  split at h
  · cases h
  · rename_i z q1
    split at h
    · rename_i b' mx' r' f' l' f l sig q2 q3 q4 q5
      split at h
      · rename_i g
        cases h
        obtain ⟨g1, g2, g3, g4, g5, g6⟩ := g
        exact ⟨rMth_mem q1, rCode_mem q2, hasInit_mem g1, g2, ⟨g3, g4⟩, q2, f', l', f, l, sig, q3, q4, q5, rfl, g5, by omega⟩
      · cases h
    · cases h
theorem act_ret {v : Option Value} (h : act ws dn k y bytes ret pc ls st H = some (.inl v)) : (∃ z r t, decode bytes pc = .ok (.ireturn, 1) ∧ st = .int z :: r ∧ ret = some t ∧ (t = .int ∨ t = .boolean ∨ t = .byte ∨ t = .char ∨ t = .short) ∧ v = some (.int (nar t z))) ∨
    (∃ z, decode bytes pc = .ok (.lreturn, 1) ∧ st = [.long z] ∧ ret = some .long ∧ v = some (.long z)) ∨ (decode bytes pc = .ok (.return_, 1) ∧ st = [] ∧ ret = none ∧ v = none) := by
  unfold act at h
  split at h
  · cases h
  rename_i ins len hd
  split at h
  · cases h
  split at h
  · cases h
  unfold cstep at h
  split at h
  · obtain ⟨rfl, h⟩ := chk_some h
    split at h
    · split at h
      · rename_i g; cases h; exact Or.inl ⟨_, _, _, hd, rfl, rfl, g, rfl⟩
      · cases h
    · cases h
  · obtain ⟨rfl, h⟩ := chk_some h
    split at h
    · cases h; exact Or.inr (Or.inl ⟨_, hd, rfl, rfl, rfl⟩)
    · cases h
  · obtain ⟨rfl, h⟩ := chk_some h
    split at h
    · cases h; exact Or.inr (Or.inr ⟨hd, rfl, rfl, rfl⟩)
    · cases h
  · obtain ⟨rfl, h⟩ := chk_some h
    split at h
    · split at h <;> cases h
    · cases h
  · obtain ⟨rfl, h⟩ := chk_some h
    split at h
    · split at h
      · split at h <;> cases h
      · cases h
    · split at h
      · split at h
        · split at h <;> cases h
        · cases h
      · cases h
  · obtain ⟨rfl, h⟩ := chk_some h
    split at h
    · split at h
      · split at h
        · split at h <;> cases h
        · cases h
      · cases h
    · cases h
  · cases h
theorem act_step {pc' : Nat} {ls' : List Slot} {st' : List Value} {H' : AHeap} (h : act ws dn k y bytes ret pc ls st H = some (.inr (.inl (pc', ls', st', H')))) : ∃ ins len, decode bytes pc = .ok (ins, len) ∧
    ((xstep ins len pc ls st = some (pc', ls', st') ∧ H' = H) ∨ (ls' = ls ∧ hstep ws k y ins len pc st H = some (pc', st', H')) ∨
     (∃ i sl a r, ins = .invokespecial i ∧ len = 3 ∧ oR ws dn y i = some sl ∧ st = .ref a :: r ∧ wsum r ≤ sl ∧ pc' = pc + 3 ∧ ls' = ls ∧ st' = r ∧ H' = H)) := by
  unfold act at h
  split at h
  · cases h
  rename_i ins len hd
  refine ⟨ins, len, hd, ?_⟩
  split at h
  · rename_i g; cases h; exact Or.inl ⟨g, rfl⟩
  split at h
  · rename_i g; cases h; exact Or.inr (Or.inl ⟨rfl, g⟩)
  unfold cstep at h
  split at h
  · obtain ⟨rfl, h⟩ := chk_some h
    split at h
    · split at h <;> cases h
    · cases h
  · obtain ⟨rfl, h⟩ := chk_some h
    split at h <;> cases h
  · obtain ⟨rfl, h⟩ := chk_some h
    split at h <;> cases h
  · obtain ⟨rfl, h⟩ := chk_some h
    split at h
    · split at h <;> cases h
    · cases h
  · obtain ⟨rfl, h⟩ := chk_some h
    split at h
    · rename_i sl ho
      split at h
      · split at h
        · rename_i g; cases h; exact Or.inr (Or.inr ⟨_, sl, _, _, rfl, rfl, ho, rfl, g, rfl, rfl, rfl, rfl⟩)
        · cases h
      · cases h
    · split at h
      · split at h
        · split at h <;> cases h
        · cases h
      · cases h
  · obtain ⟨rfl, h⟩ := chk_some h
    split at h
    · split at h
      · split at h
        · split at h <;> cases h
        · cases h
      · cases h
    · cases h
  · cases h
theorem act_call {y' : MethodName} {b : ByteArray} {r : Option FieldType} {en : List Slot} {rest : List Value} (h : act ws dn k y bytes ret pc ls st H = some (.inr (.inr (y', b, r, en, rest)))) : ∃ i mx na sl as, cR ws dn y i = some (y', b, mx, r, na, sl) ∧ en = entry as mx ∧ (ent as).length ≤ mx ∧ wsum rest ≤ sl ∧
    ((decode bytes pc = .ok (.invokestatic i, 3) ∧ Jvm.Cond.static y' ∈ ws ∧ as.length = na ∧ st = as.reverse ++ rest) ∨
     (∃ a as', as = .ref a :: as' ∧ as'.length = na ∧ st = as'.reverse ++ .ref a :: rest ∧ Jvm.Cond.instanceMethod y' ∈ ws ∧
      ((decode bytes pc = .ok (.invokespecial i, 3) ∧ y'.name = "<init>" ∧ r = none) ∨
       (decode bytes pc = .ok (.invokevirtual i, 3) ∧ ∃ C vs, H[a]? = some (.object C, vs) ∧ ((Jvm.Cond.privateMethod y' ∈ ws ∧ ∃ ki, Jvm.Cond.instantiable y'.cls ki ∈ ws) ∨ (Jvm.Cond.declares y' ∈ ws ∧ Jvm.Cond.selects y'.cls y' y' ∈ ws ∧ C = y'.cls)))))) := by
  unfold act at h
  split at h
  · cases h
  rename_i ins len hd
  split at h
  · cases h
  split at h
  · cases h
  unfold cstep at h
  split at h
  · obtain ⟨rfl, h⟩ := chk_some h
    split at h
    · split at h <;> cases h
    · cases h
  · obtain ⟨rfl, h⟩ := chk_some h
    split at h <;> cases h
  · obtain ⟨rfl, h⟩ := chk_some h
    split at h <;> cases h
  · rename_i i _ _
    obtain ⟨rfl, h⟩ := chk_some h
    split at h
    · rename_i y1 b1 mx r1 na sl hq
      split at h
      · rename_i g
        cases h
        unfold sR at hq
        split at hq
        · rename_i q hc
          split at hq
          · rename_i hs
            cases hq
            refine ⟨i, mx, na, sl, _, hc, rfl, g.2.2, g.2.1, Or.inl ⟨hd, hasStat_mem hs, by simp; omega, by simp⟩⟩
          · cases hq
        · cases hq
      · cases h
    · cases h
  · rename_i i _ _
    obtain ⟨rfl, h⟩ := chk_some h
    split at h
    · split at h
      · split at h <;> cases h
      · cases h
    · split at h
      · rename_i y1 b1 mx r1 na sl hq
        split at h
        · rename_i a rest' hdrop
          split at h
          · rename_i g
            cases h
            unfold nR at hq
            split at hq
            · rename_i q hc
              split at hq
              · rename_i hs
                cases hq
                refine ⟨i, mx, na, sl, _, hc, rfl, g.2.1, g.1, Or.inr ⟨a, _, rfl, by simp; omega, ?_, hasIM_mem hs.2.1, Or.inl ⟨hd, hs.1, hs.2.2⟩⟩⟩
                rw [List.reverse_reverse, ← hdrop, List.take_append_drop]
              · cases hq
            · cases hq
          · cases h
        · cases h
      · cases h
  · rename_i i _ _
    obtain ⟨rfl, h⟩ := chk_some h
    split at h
    · rename_i pv y1 b1 mx r1 na sl hq
      split at h
      · rename_i a rest' hdrop
        split at h
        · rename_i C vs hH
          split at h
          · rename_i g
            cases h
            unfold vR at hq
            split at hq
            · rename_i q hc
              split at hq
              · rename_i hs
                split at hq
                · rename_i hp; cases hq
                  obtain ⟨ki, hki⟩ := Option.isSome_iff_exists.mp hp.2
                  exact ⟨i, mx, na, sl, _, hc, rfl, g.2.2.1, g.2.1, Or.inr ⟨a, _, rfl, by simp; omega, by rw [List.reverse_reverse, ← hdrop, List.take_append_drop], hasIM_mem hs, Or.inr ⟨hd, C, vs, hH, Or.inl ⟨hasPriv_mem hp.1, ki, rInst_mem hki⟩⟩⟩⟩
                · split at hq
                  · rename_i hp; cases hq
                    exact ⟨i, mx, na, sl, _, hc, rfl, g.2.2.1, g.2.1, Or.inr ⟨a, _, rfl, by simp; omega, by rw [List.reverse_reverse, ← hdrop, List.take_append_drop], hasIM_mem hs, Or.inr ⟨hd, C, vs, hH, Or.inr ⟨hasDecl_mem hp.1, hasSel_mem hp.2, g.1.resolve_left (by simp)⟩⟩⟩⟩
                  · cases hq
              · cases hq
            · cases hq
          · cases h
        · cases h
      · cases h
    · cases h
  · cases h
theorem act_size {pc' : Nat} {ls' : List Slot} {st' : List Value} {H' : AHeap} (h : act ws dn k y bytes ret pc ls st H = some (.inr (.inl (pc', ls', st', H')))) : H.length ≤ H'.length ∧ tot ws H ≤ tot ws H' ∧ ls'.length = ls.length := by
  obtain ⟨ins, len, hd, ⟨g, rfl⟩ | ⟨rfl, g⟩ | ⟨i, sl, a, r, -, -, -, -, -, -, rfl, -, rfl⟩⟩ := act_step h
  · exact ⟨Nat.le_refl _, Nat.le_refl _, xstep_size g⟩
  · have := hstep_size g; exact ⟨this.1, this.2, rfl⟩
  · exact ⟨Nat.le_refl _, Nat.le_refl _, rfl⟩
end Inv
theorem run_size {ws : Ws} {dn : Dn} {k : Nat} : ∀ {n : Nat} {y : MethodName} {bytes : ByteArray} {ret : Option FieldType} {pc : Nat} {ls : List Slot} {st : List Value} {H : AHeap} {v : Option Value} {H' : AHeap}, run ws dn k n y bytes ret pc ls st H = some (v, H') → H.length ≤ H'.length ∧ tot ws H ≤ tot ws H'
  | 0, _, _, _, _, _, _, _, _, _, h => by cases h
  | n + 1, y, bytes, ret, pc, ls, st, H, v, H', h => by
    rw [run] at h
    split at h
    · cases h
    · cases h; exact ⟨Nat.le_refl _, Nat.le_refl _⟩
    · rename_i g
      have h1 := run_size h
      have h2 := act_size g
      exact ⟨Nat.le_trans h2.1 h1.1, Nat.le_trans h2.2.1 h1.2⟩
    · split at h
      · rename_i g
        have h1 := run_size h
        have h2 := run_size g
        exact ⟨Nat.le_trans h2.1 h1.1, Nat.le_trans h2.2 h1.2⟩
      · cases h
section Snd
def Goes (p : Program) (l : Launch) (e : Env) (R : Room) (s : State) (m : MethodId) (args : Array Value) (below : List Frame) (meth : Method) (c : Code) (T : State) (Z : State) (ws : Ws) (k sa n0 cells slots : Nat) (H : AHeap) (g : JFrame) (ret : Option FieldType) (v : Option Value) (H' : AHeap) : Prop :=
  ∃ T' locs', Stand p l e R s m args below meth c T' locs' (cells + (H'.length - H.length)) (slots + (tot ws H' - tot ws H)) ∧ Sim Z ws k sa n0 H' T'.heap ∧ Fr n0 locs' ∧ (ret = none → v = none) ∧
    ∀ fs, (∀ (fj : JFrame) (acts : List Action), fj.method = m → fj.locked = none → fj.entered = [] → (doReturn e (T'.setTop fj) acts (v.map (ren (adr k sa n0)))).1 = T'.setFrames fs) → Steps p.tables e below (T.setTop g) (T'.setFrames fs)
variable {p : Program} {l : Launch} {e : Env} {R : Room} {s : State} {m : MethodId} {args : Array Value} {below : List Frame} {meth : Method} {c : Code} {T : State} {locs : List Loc} {cells slots : Nat}
  {Z : State} {a0 : Array Value} {ws : Ws} {dn : Dn} {k sa n0 : Nat}
theorem Goes.of {T1 : State} {H H1 H' : AHeap} {g g1 : JFrame} {ret : Option FieldType} {v : Option Value} (hst : ∀ target, Steps p.tables e below (T1.setTop g1) target → Steps p.tables e below (T.setTop g) target)
    (G : Goes p l e R s m args below meth c T1 Z ws k sa n0 (cells + (H1.length - H.length)) (slots + (tot ws H1 - tot ws H)) H1 g1 ret v H') (m1 : H.length ≤ H1.length ∧ tot ws H ≤ tot ws H1) (m2 : H1.length ≤ H'.length ∧ tot ws H1 ≤ tot ws H') :
    Goes p l e R s m args below meth c T Z ws k sa n0 cells slots H g ret v H' := by
  obtain ⟨T', locs', X', S', N', hv, go⟩ := G
  have e1 : cells + (H1.length - H.length) + (H'.length - H1.length) = cells + (H'.length - H.length) := by omega
  have e2 : slots + (tot ws H1 - tot ws H) + (tot ws H' - tot ws H1) = slots + (tot ws H' - tot ws H) := by omega
  rw [e1, e2] at X'
  exact ⟨T', locs', X', S', N', hv, fun fs hf => hst _ (go fs hf)⟩
def Snd (Z : State) (ws : Ws) (dn : Dn) (k sa n0 n : Nat) : Prop :=
  ∀ (y : MethodName) (bytes : ByteArray) (ret : Option FieldType) (pc : Nat) (ls : List Slot) (st : List Value) (H : AHeap) (v : Option Value) (H' : AHeap), run ws dn k n y bytes ret pc ls st H = some (v, H') →
  ∀ (p : Program) (l : Launch) (e : Env) (R : Room) (s : State) (m : MethodId) (args : Array Value) (below : List Frame) (meth : Method) (c : Code) (T : State) (locs : List Loc) (cells slots : Nat),
    Stand p l e R s m args below meth c T locs cells slots → p.tables.exec = Jvm.exec → Z.Warmed39 s.vm → s.vm.findClass y.cls = some m.cls → meth.name = y.name → meth.sig.returnType = ret → c.code = bytes → ls.length = c.maxLocals →
    (∀ f lc, dnOf dn y = some (f, lc) → f ≤ R.frames ∧ lc ≤ R.locals) → Sim Z ws k sa n0 H T.heap → Fr n0 locs → cells + (H'.length - H.length) ≤ R.cells → slots + (tot ws H' - tot ws H) ≤ R.slots → T.heap.size = s.heap.size + cells →
    Goes p l e R s m args below meth c T Z ws k sa n0 cells slots H (fr (adr k sa n0) m pc ls st) ret v H'
theorem met_of {n : Nat} (ih : Snd Z ws dn k sa n0 n) (l : Launch) {y : MethodName} {b : ByteArray} {mx f lc : Nat} {r : Option FieldType} (wsx : List Jvm.Cond) (hp : Jvm.plainName y.cls = true) {as : List Value} (he : (ent as).length ≤ mx) {H H1 : AHeap} {v : Option Value}
    (hrun : run ws dn k n y b r 0 (entry as mx) [] H = some (v, H1)) (hdn : ∀ f' l', dnOf dn y = some (f', l') → f' ≤ f ∧ l' ≤ lc) {h : Heap} (S : Sim Z ws k sa n0 H h) {rc rs : Nat} (hc : H1.length - H.length ≤ rc) (hs : tot ws H1 - tot ws H ≤ rs) :
    MetFree l y (head1 (Jvm.Cond.code y b mx r :: wsx) ({ frames := f, cells := rc, slots := rs, locals := lc } : Room)) (fun a U => a = (as.map (ren (adr k sa n0))).toArray ∧ Z.Warmed39 U.vm ∧ U.heap = h) (fun _ _ _ _ _ => True)
      (fun _ U o U' => ∃ w L, o = .returned w ∧ (w = v.map (ren (adr k sa n0)) ∧ Sim Z ws k sa n0 H1 U'.heap ∧ Fr n0 L) ∧ FrameEnd U o U' L (H1.length - H.length) (tot ws H1 - tot ws H)) := by
  refine MetFree.of_bodySF (plainFor_of_name hp) hisR ?_
  intro p e s m args below meth c s₁ Bd hml0 hP hK
  obtain ⟨rfl, hZ, hh⟩ := hP
  have hown : s.vm.findClass y.cls = some m.cls := findClass_of_methodNamed Bd.named
  have hnm := (name_of_methodNamed Bd.named Bd.method).1
  have X0 : Stand p l e ({ frames := f, cells := rc, slots := rs, locals := lc } : Room) s m (as.map (ren (adr k sa n0))).toArray below meth c s₁ [] 0 0 := Stand.of_body Bd
  have e0 : s₁.heap = h := by rw [← hh, Bd.state]; rfl
  obtain ⟨T', locs', X', S', N', hv, go⟩ := ih y b r 0 (entry as mx) [] H v H1 hrun p l e _ s m _ below meth c s₁ [] 0 0 X0 Bd.exec hZ hown hnm Bd.returns Bd.bytes (by rw [entry_len he]; exact hml0.symm) hdn (by rw [e0]; exact S) (Fr.nil n0) (by rw [Nat.zero_add]; exact hc) (by rw [Nat.zero_add]; exact hs) (by rw [e0, ← hh, Nat.add_zero])
  obtain ⟨fs, hr, hrun', hended, hW, hsame⟩ := X'.leave (v := v.map (ren (adr k sa n0))) (fun hn => by rw [Bd.returns] at hn; rw [hv hn]; rfl)
  refine ⟨_, _, castTop (entry_eq _ m as mx) (go fs hr), hrun', hended, _, locs', rfl, ⟨rfl, S', N'⟩, ⟨_, rfl⟩, hW, hsame.mono (Nat.le_of_eq (Nat.zero_add _)) (Nat.le_of_eq (Nat.zero_add _))⟩
set_option maxHeartbeats 2000000 in
theorem snd (hw : ∀ d ∈ ws, d.before a0 Z = true) : ∀ n, Snd Z ws dn k sa n0 n
  | 0 => fun y bytes ret pc ls st H v H' h => by cases h
  | n + 1 => fun y bytes ret pc ls st H v H' h p l e R s m args below meth c T locs cells slots X hx hZ hown hnm hret hby hls hF S N hc hl hz0 => by
    have ih := snd hw n
    rw [run] at h
    split at h
    · cases h
    · rename_i v' ha
      cases h
      have stay : ∀ {v : Option Value}, (ret = none → v = none) → (∀ fs, (∀ (fj : JFrame) (acts : List Action), fj.method = m → fj.locked = none → fj.entered = [] → (doReturn e (T.setTop fj) acts (v.map (ren (adr k sa n0)))).1 = T.setFrames fs) → Steps p.tables e below (T.setTop (fr (adr k sa n0) m pc ls st)) (T.setFrames fs)) →
          Goes p l e R s m args below meth c T Z ws k sa n0 cells slots H (fr (adr k sa n0) m pc ls st) ret v H := fun hv hg => ⟨T, locs, by rw [Nat.sub_self, Nat.sub_self]; exact X, S, N, hv, hg⟩
      rcases act_ret ha with ⟨z, r, t, hd, rfl, rfl, ht, rfl⟩ | ⟨z, hd, rfl, rfl, rfl⟩ | ⟨hd, rfl, rfl, rfl⟩
      · refine stay (fun h => by cases h) fun fs hf => ?_
        rcases ht with rfl | ht
        · exact retOut X hx hret (w := .int z) (rest := r.map (ren (adr k sa n0))) rfl (Or.inl ⟨rfl, Or.inl rfl, z, rfl⟩) (hb hby hd) hf
        · exact retN X hx hret ht (hb hby hd) hf
      · exact stay (fun h => by cases h) fun fs hf => retOut X hx hret (w := .long z) (rest := []) rfl (Or.inr (Or.inl ⟨rfl, rfl, z, rfl⟩)) (hb hby hd) hf
      · exact stay (fun _ => rfl) fun fs hf => X.returnOut hx hret (hb hby hd) hf
    · rename_i pc' ls' st' H1 ha
      have m1 := act_size ha
      have m2 := run_size h
      obtain ⟨ins, len, hd, ⟨g, rfl⟩ | ⟨rfl, g⟩ | ⟨i, sl, a, r, rfl, rfl, ho, rfl, hW, rfl, rfl, rfl, rfl⟩⟩ := act_step ha
      · obtain ⟨T', locs', X', S', N', hv, go⟩ := ih y bytes ret pc' ls' st' H1 v H' h p l e R s m args below meth c T locs cells slots X hx hZ hown hnm hret hby (m1.2.2.trans hls) hF S N hc hl hz0
        exact ⟨T', locs', X', S', N', hv, fun fs hf => xstep_sound X.here hx (adr k sa n0) (hb hby hd) g (go fs hf)⟩
      · obtain ⟨T1, locs1, X1, S1, N1, st1⟩ := hstep_sound (ls := ls') hw X hx hZ hown hnm (hb hby hd) g S N (by dsimp only; omega) (by dsimp only; omega) hz0
        dsimp only at X1 S1 st1
        have z1 := S.1
        have z2 := S1.1
        have z3 := S.2.1
        have G := ih y bytes ret pc' ls' st' H1 v H' h p l e R s m args below meth c T1 locs1 _ _ X1 hx hZ hown hnm hret hby hls hF S1 N1 (by omega) (by omega) (by omega)
        exact Goes.of st1 G ⟨m1.1, m1.2.1⟩ m2
      · unfold oR at ho
        split at ho
        · rename_i y1 b1 mx1 r1 f1 l1 q1 q2 q3
          split at ho
          · rename_i g
            cases ho
            obtain ⟨rfl, g2, g3, rfl, rfl, g4, g5⟩ := g
            obtain ⟨u1, u2⟩ := hF _ _ q3
            have eb : b1 = ⟨#[0xb1]⟩ := by cases b1; cases g3; rfl
            subst eb
            obtain ⟨T1, X1, e1, st1⟩ := initO X hx hZ hown (hw _ (rMth_mem q1)) (hw _ (hasIM_mem g2)) (hw _ (rCode_mem q2)) rfl (g := fr (adr k sa n0) m pc ls' (.ref a :: st')) rfl (by simp [hls]) rfl (hb hby hd) (by omega) (W := l1 - 12) (by show 2 * 0 + _ ≤ _; rw [wsum_ren]; omega) (by omega)
            have G := ih y bytes ret (pc + 3) ls' st' H1 v H' h p l e R s m args below meth c T1 locs cells slots X1 hx hZ hown hnm hret hby hls hF (by rw [e1]; exact S) N hc hl (by rw [e1]; exact hz0)
            obtain ⟨T', locs', X', S', N', hv, go⟩ := G
            exact ⟨T', locs', X', S', N', hv, fun fs hf => st1 _ (go fs hf)⟩
          · cases ho
        · cases ho
    · rename_i y' b r en rest ha
      split at h
      · rename_i v1 H1 h1
        have m1 := run_size h1
        have m2 := run_size h
        obtain ⟨i, mx, na, sl, as, hq, rfl, hen, hW, hk⟩ := act_call ha
        obtain ⟨w1, w2, w3, w4, w5, -, f', l', f, lc, sig, d1, d2, d3, d4, d5, d6⟩ := cR_some hq
        obtain ⟨u1, u2⟩ := hF _ _ d2
        have hM := met_of ih l [] w4 hen h1 (f := f') (lc := l') (fun f2 l2 q => by rw [d1] at q; cases q; exact ⟨Nat.le_refl _, Nat.le_refl _⟩) S (Nat.le_refl _) (Nat.le_refl _)
        have hB := backOf (R := R) (p := p) (e := e) (below := below) (s := s) (args := args) (len := 3) (W := sl) (rm := ({ frames := f', cells := H1.length - H.length, slots := tot ws H1 - tot ws H, locals := l' } : Room)) (Q := fun w h L => w = v1.map (ren (adr k sa n0)) ∧ Sim Z ws k sa n0 H1 h ∧ Fr n0 L) hM hZ (hw _ w2) (hw _ w3) (by show f' + 1 ≤ _; omega) (by show sl + (mx + 11) + l' ≤ _; omega)
        have hsz : (fr (adr k sa n0) m pc ls st).locals.size = c.maxLocals := by simp [hls]
        have hWW : ∀ st' : List Value, wsum st' ≤ sl → 2 * (fr (adr k sa n0) m pc ls st).monitorRoom + ((st'.map (ren (adr k sa n0))).map fun v => v.category).sum ≤ sl := fun st' q => by show 2 * 0 + _ ≤ _; rw [wsum_ren]; omega
        have hback : ∀ (v' : Option Value) (vm₁ : Vm) (B : Pt), Stand p l e R s m args below meth c B.U B.locs B.cells B.slots →
            (∃ L, (v' = v1.map (ren (adr k sa n0)) ∧ Sim Z ws k sa n0 H1 B.U.heap ∧ Fr n0 L) ∧ B.locs = locs ++ L ∧ B.cells = cells + (H1.length - H.length) ∧ B.slots = slots + (tot ws H1 - tot ws H)) →
            (∀ target, Steps p.tables e below (B.U.setTop { fr (adr k sa n0) m pc ls st with pc := pc + 3, stack := v'.toList ++ rest.map (ren (adr k sa n0)) }) target → Steps p.tables e below (T.setTop (fr (adr k sa n0) m pc ls st)) target) →
            Goes p l e R s m args below meth c T Z ws k sa n0 cells slots H (fr (adr k sa n0) m pc ls st) ret v H' := by
          rintro v' vm₁ ⟨T1, L1, k1, n1⟩ X1 ⟨Lc, ⟨rfl, S1, N1⟩, l1, y1, z1⟩ st1
          dsimp only [Pt.U, Pt.locs, Pt.cells, Pt.slots] at X1 l1 y1 z1 st1 S1
          subst l1 y1 z1
          have z1 := S.1
          have z2 := S1.1
          have z3 := S.2.1
          have G := ih y bytes ret (pc + 3) ls (v1.toList ++ rest) H1 v H' h p l e R s m args below meth c T1 _ _ _ X1 hx hZ hown hnm hret hby hls hF S1 (Fr.app N N1) (by omega) (by omega) (by omega)
          refine Goes.of (fun target ht => st1 target ?_) G m1 m2
          have e1 : (v1.toList ++ rest).map (ren (adr k sa n0)) = (v1.map (ren (adr k sa n0))).toList ++ rest.map (ren (adr k sa n0)) := by cases v1 <;> simp
          rw [← e1]; exact ht
        rcases hk with ⟨hd, ws1, hna, rfl⟩ | ⟨a, as', rfl, hna, rfl, wi, ⟨hd, hn, rfl⟩ | ⟨hd, C, vs, hH, hpd⟩⟩
        · obtain ⟨v', vm₁, B, -, X1, P1, st1⟩ := Jvm.LawKit.callS X hx (y := y') hown (mvT hZ (hw _ w1)) (mvT hZ (hw _ ws1)) (mvT hZ (hw _ w3)) (mvT hZ (hw _ w2)) w5 hB (g := fr (adr k sa n0) m pc ls (as.reverse ++ rest)) rfl hsz (argsL := as.map (ren (adr k sa n0))) (rest := rest.map (ren (adr k sa n0)))
            (fun sg hsg => by rw [d3] at hsg; cases hsg; simp [hna, d4]) (by simp) (hWW rest hW) (hb hby hd) (fun _ _ => ⟨rfl, rfl, by show cells + (H1.length - H.length) ≤ _; omega, by show slots + (tot ws H1 - tot ws H) ≤ _; omega⟩)
          exact hback v' vm₁ B X1 P1 st1
        · obtain ⟨v', vm₁, B, -, X1, P1, st1⟩ := X.specialBack hx (y := y') hn hown (mvT hZ (hw _ w1)) (mvT hZ (hw _ wi)) (mvT hZ (hw _ w2)) w5 hB (g := fr (adr k sa n0) m pc ls (as'.reverse ++ .ref a :: rest)) rfl hsz (Steps.refl _) (a := adr k sa n0 a) (argsL := as'.map (ren (adr k sa n0))) (rest := rest.map (ren (adr k sa n0)))
            (fun sg hsg => by rw [d3] at hsg; cases hsg; simp [hna, d4]) (by simp [ren]) (hWW rest hW) (hb hby hd) (fun _ _ => ⟨rfl, rfl, by show cells + (H1.length - H.length) ≤ _; omega, by show slots + (tot ws H1 - tot ws H) ≤ _; omega⟩)
          exact hback v' vm₁ B X1 P1 fun target ht => st1.trans ht
        · have E := (S.2.2.2.2 a _ hH).1
          rcases hpd with ⟨wp, ki, wki⟩ | ⟨wd, wsel, rfl⟩
          · obtain ⟨cq, hq1, hq2⟩ := E.cell
            have hpa : s.PrivateAt y' := Cond.privateMethod_at (mvP hZ (hw _ wp) (args := #[]))
            have hsel : (Jvm.Cond.selects y'.cls y' y').before args s = true := by
              have wz : (Jvm.Cond.instantiable y'.cls ki).before args s = true := mvT hZ (hw _ wki)
              obtain ⟨c2, k2, i1, i2, -, i4, -⟩ := Cond.instantiable_spec wz
              exact selects_self_of_private i1 i2 (Bool.or_eq_false_iff.mp i4).1 hpa (mvT hZ (hw _ wi)) w5
            obtain ⟨v', vm₁, B, -, X1, P1, st1⟩ := X.privateBack hx (y := y') hown (mvT hZ (hw _ w1)) (mvT hZ (hw _ wi)) hsel hpa (mvT hZ (hw _ w2)) w5 hB (g := fr (adr k sa n0) m pc ls (as'.reverse ++ .ref a :: rest)) rfl hsz (Steps.refl _) (a := adr k sa n0 a) hq1 hq2 (argsL := as'.map (ren (adr k sa n0))) (rest := rest.map (ren (adr k sa n0)))
              (fun sg hsg => by rw [d3] at hsg; cases hsg; simp [hna, d4]) (by simp [ren]) (hWW rest hW) (hb hby hd) (fun _ _ => ⟨rfl, rfl, by show cells + (H1.length - H.length) ≤ _; omega, by show slots + (tot ws H1 - tot ws H) ≤ _; omega⟩)
            exact hback v' vm₁ B X1 P1 fun target ht => st1.trans ht
          · obtain ⟨cq, kq, qa, qb, qc⟩ := isOf hZ rfl E
            obtain ⟨v', vm₁, B, -, X1, P1, st1⟩ := X.virtualBack hx (y := y') (z := y') hown (mvT hZ (hw _ w1)) (mvT hZ (hw _ wd)) (notFace_of_selects (args := #[]) (mvT hZ (hw _ wsel))) (mvT hZ (hw _ wsel)) (mvT hZ (hw _ wi)) w5 hB qa qc (g := fr (adr k sa n0) m pc ls (as'.reverse ++ .ref a :: rest)) rfl hsz (Steps.refl _) (argsL := as'.map (ren (adr k sa n0))) (rest := rest.map (ren (adr k sa n0)))
              (fun sg hsg => by rw [d3] at hsg; cases hsg; simp [hna, d4]) (by simp [ren]) (hWW rest hW) (hb hby hd) (fun _ _ => ⟨rfl, rfl, by show cells + (H1.length - H.length) ≤ _; omega, by show slots + (tot ws H1 - tot ws H) ≤ _; omega⟩)
            exact hback v' vm₁ B X1 P1 fun target ht => st1.trans ht
      · cases h
end Snd
end Jvm.Own
namespace Jvm.Own
open Sem ClassFile Op Lib Jvm.Stand Jvm.Free Jvm.LawKit Jvm.RoadKit
theorem run_succ {ws : Ws} {dn : Dn} {k : Nat} : ∀ {n : Nat} {y : MethodName} {bytes : ByteArray} {ret : Option FieldType} {pc : Nat} {ls : List Slot} {st : List Value} {H : AHeap} {r : Option Value × AHeap}, run ws dn k n y bytes ret pc ls st H = some r → run ws dn k (n + 1) y bytes ret pc ls st H = some r
  | 0, _, _, _, _, _, _, _, _, h => by cases h
  | n + 1, y, bytes, ret, pc, ls, st, H, r, h => by
    rw [run] at h
    rw [run]
    split at h
    · cases h
    · exact h
    · exact run_succ h
    · split at h
      · rename_i v H1 g
        rw [run_succ g]
        exact run_succ h
      · cases h
theorem run_mono {ws : Ws} {dn : Dn} {k n n' : Nat} {y : MethodName} {bytes : ByteArray} {ret : Option FieldType} {pc : Nat} {ls : List Slot} {st : List Value} {H : AHeap} {r : Option Value × AHeap} (hn : n ≤ n') (h : run ws dn k n y bytes ret pc ls st H = some r) : run ws dn k n' y bytes ret pc ls st H = some r := by
  induction hn with
  | refl => exact h
  | step _ ih => exact run_succ ih
def W (ws : Ws) (dn : Dn) (k : Nat) (y : MethodName) (bytes : ByteArray) (ret : Option FieldType) (pc : Nat) (ls : List Slot) (st : List Value) (H : AHeap) (Q : Option Value → AHeap → Prop) : Prop :=
  ∃ n v H', run ws dn k n y bytes ret pc ls st H = some (v, H') ∧ Q v H'
section
variable {ws : Ws} {dn : Dn} {k : Nat} {y : MethodName} {bytes : ByteArray} {ret : Option FieldType} {pc : Nat} {ls : List Slot} {st : List Value} {H : AHeap} {Q : Option Value → AHeap → Prop}
theorem W_step {pc' : Nat} {ls' : List Slot} {st' : List Value} {H' : AHeap} (h : act ws dn k y bytes ret pc ls st H = some (.inr (.inl (pc', ls', st', H')))) : W ws dn k y bytes ret pc ls st H Q = W ws dn k y bytes ret pc' ls' st' H' Q := by
  refine propext ⟨fun ⟨n, v, H1, h1, h2⟩ => ?_, fun ⟨n, v, H1, h1, h2⟩ => ⟨n + 1, v, H1, by rw [run, h]; exact h1, h2⟩⟩
  cases n with
  | zero => cases h1
  | succ n => rw [run, h] at h1; exact ⟨n, v, H1, h1, h2⟩
theorem W_ret {v : Option Value} (h : act ws dn k y bytes ret pc ls st H = some (.inl v)) : W ws dn k y bytes ret pc ls st H Q = Q v H := by
  refine propext ⟨fun ⟨n, v, H1, h1, h2⟩ => ?_, fun h2 => ⟨1, v, H, by rw [run, h], h2⟩⟩
  cases n with
  | zero => cases h1
  | succ n => rw [run, h] at h1; cases h1; exact h2
theorem W_call {y' : MethodName} {b : ByteArray} {r : Option FieldType} {en : List Slot} {rest : List Value} (h : act ws dn k y bytes ret pc ls st H = some (.inr (.inr (y', b, r, en, rest)))) :
    W ws dn k y bytes ret pc ls st H Q = W ws dn k y' b r 0 en [] H (fun v H1 => W ws dn k y bytes ret (pc + 3) ls (v.toList ++ rest) H1 Q) := by
  refine propext ⟨fun ⟨n, v, H1, h1, h2⟩ => ?_, fun ⟨n, v, H1, h1, n', v', H', h2, h3⟩ => ⟨max n n' + 1, v', H', ?_, h3⟩⟩
  · cases n with
    | zero => cases h1
    | succ n =>
      rw [run, h] at h1
      dsimp only at h1
      split at h1
      · rename_i v' H' g; exact ⟨n, v', H', g, n, v, H1, h1, h2⟩
      · cases h1
  · rw [run, h]
    dsimp only
    rw [run_mono (Nat.le_max_left _ _) h1]
    exact run_mono (Nat.le_max_right _ _) h2
theorem W.mono {Q' : Option Value → AHeap → Prop} (h : W ws dn k y bytes ret pc ls st H Q) (hq : ∀ v H', Q v H' → Q' v H') : W ws dn k y bytes ret pc ls st H Q' := by
  obtain ⟨n, v, H', h1, h2⟩ := h; exact ⟨n, v, H', h1, hq _ _ h2⟩
theorem act_x {ins : Instr} {len pc' : Nat} {ls' : List Slot} {st' : List Value} (hd : decode bytes pc = .ok (ins, len)) (hx : xstep ins len pc ls st = some (pc', ls', st')) : act ws dn k y bytes ret pc ls st H = some (.inr (.inl (pc', ls', st', H))) := by
  unfold act; rw [hd]; dsimp only; rw [hx]
theorem act_h {ins : Instr} {len pc' : Nat} {st' : List Value} {H' : AHeap} (hd : decode bytes pc = .ok (ins, len)) (hx : xstep ins len pc ls st = none) (hh : hstep ws k y ins len pc st H = some (pc', st', H')) : act ws dn k y bytes ret pc ls st H = some (.inr (.inl (pc', ls, st', H'))) := by
  unfold act; rw [hd]; dsimp only; rw [hx]; dsimp only; rw [hh]
theorem act_c {ins : Instr} {len : Nat} (hd : decode bytes pc = .ok (ins, len)) (hx : xstep ins len pc ls st = none) (hh : hstep ws k y ins len pc st H = none) : act ws dn k y bytes ret pc ls st H = cstep ws dn y ret ins len pc ls st H := by
  unfold act; rw [hd]; dsimp only; rw [hx]; dsimp only; rw [hh]
theorem w_x {ins : Instr} {len pc' : Nat} {ls' : List Slot} {st' : List Value} (hd : decode bytes pc = .ok (ins, len)) (hx : xstep ins len pc ls st = some (pc', ls', st')) : W ws dn k y bytes ret pc ls st H Q = W ws dn k y bytes ret pc' ls' st' H Q := W_step (act_x hd hx)
theorem w_if {cd : ClassFile.Cond} {o : Int} {x : Int32} {t : Nat} {P : Prop} [Decidable P] (hd : decode bytes pc = .ok (.ifCond cd o, 3)) (hp : ifCond.holds cd x = decide P) (hj : jmp pc o = some t) :
    W ws dn k y bytes ret pc ls (.int x :: st) H Q = if P then W ws dn k y bytes ret t ls st H Q else W ws dn k y bytes ret (pc + 3) ls st H Q := by
  split
  · exact w_x hd (by simp only [xstep, chk, br, hp, hj, if_true]; simp [*])
  · exact w_x hd (by simp only [xstep, chk, br, hp, hj, if_true]; simp [*])
theorem w_icmp {cd : ClassFile.Cond} {o : Int} {x1 x2 : Int32} {t : Nat} {P : Prop} [Decidable P] (hd : decode bytes pc = .ok (.if_icmp cd o, 3)) (hp : if_icmp.holds cd x1 x2 = decide P) (hj : jmp pc o = some t) :
    W ws dn k y bytes ret pc ls (.int x2 :: .int x1 :: st) H Q = if P then W ws dn k y bytes ret t ls st H Q else W ws dn k y bytes ret (pc + 3) ls st H Q := by
  split
  · exact w_x hd (by simp only [xstep, chk, br, hp, hj, if_true]; simp [*])
  · exact w_x hd (by simp only [xstep, chk, br, hp, hj, if_true]; simp [*])
theorem w_get {i j : Nat} {a : Nat} {C : String} {vs : List Value} {v : Value} (hd : decode bytes pc = .ok (.getfield i, 3)) (hr : gfR ws y.cls i = some (C, j)) (ho : H[a]? = some (.object C, vs)) (hv : vs[j]? = some v) :
    W ws dn k y bytes ret pc ls (.ref a :: st) H Q = W ws dn k y bytes ret (pc + 3) ls (v :: st) H Q :=
  W_step (act_h hd rfl (by simp only [hstep, chk, hGet, hr, ho, hv, if_true, Option.map_some]))
theorem w_put {i j : Nat} {a : Nat} {C : String} {ty : FieldType} {vs : List Value} {v v' : Value} {H' : AHeap} (hd : decode bytes pc = .ok (.putfield i, 3)) (hr : pfR ws y.cls y.name i = some (C, j, ty)) (ho : H[a]? = some (.object C, vs)) (hk : k ≤ a) (hj : j < vs.length) (hv : putv ty v = some v') (hH : H.set a (.object C, vs.set j v') = H') :
    W ws dn k y bytes ret pc ls (v :: .ref a :: st) H Q = W ws dn k y bytes ret (pc + 3) ls st H' Q :=
  W_step (act_h hd rfl (by simp only [hstep, chk, hPut, hr, ho, hv, if_true, true_and, hk, hj, Option.map_some, hH, and_self]))
theorem w_new {i : Nat} {C : String} (hd : decode bytes pc = .ok (.new i, 3)) (hr : hNew ws y.cls i pc H st = some (pc + 3, .ref H.length :: st, H ++ [(.object C, (olay ws C).map dflt)])) :
    W ws dn k y bytes ret pc ls st H Q = W ws dn k y bytes ret (pc + 3) ls (.ref H.length :: st) (H ++ [(.object C, (olay ws C).map dflt)]) Q :=
  W_step (act_h hd rfl (by simp only [hstep, chk, if_true]; exact hr))
theorem w_newA {aty : ArrayType} {n : Int32} {ty : FieldType} (hd : decode bytes pc = .ok (.newarray aty, 2)) (ht : newarray.typeOf aty = ty) (hr : hasArr ws ty = true) (hn : ¬ n < 0) (hb : n.toNatClampNeg * 8 ≤ 536870912) :
    W ws dn k y bytes ret pc ls (.int n :: st) H Q = W ws dn k y bytes ret (pc + 2) ls (.ref H.length :: st) (H ++ [(.array ty, List.replicate n.toNatClampNeg (defaultValue ty))]) Q := by
  subst ht
  exact W_step (act_h hd rfl (by simp only [hstep, chk, hNewA, hr, hn, hb, if_true, not_false_eq_true, and_self]))
def ldOk : Instr → FieldType → Bool
  | .iaload, .int | .caload, .char | .laload, .long | .baload, .byte | .baload, .boolean => true
  | _, _ => false
def stOk : Instr → FieldType → Bool
  | .iastore, .int | .castore, .char | .lastore, .long | .bastore, .byte | .bastore, .boolean => true
  | _, _ => false
theorem w_ald {ins : Instr} {a : Nat} {j : Int32} {ty : FieldType} {vs : List Value} {v : Value} (hd : decode bytes pc = .ok (ins, 1)) (hi : ldOk ins ty = true) (ho : H[a]? = some (.array ty, vs)) (hj : ¬ j < 0) (hv : vs[j.toNatClampNeg]? = some v) :
    W ws dn k y bytes ret pc ls (.int j :: .ref a :: st) H Q = W ws dn k y bytes ret (pc + 1) ls (v :: st) H Q := by
  unfold ldOk at hi
  split at hi
  all_goals first
    | exact W_step (act_h hd rfl (by simp only [hstep, chk, hLd, okT, okB, ho, hv, hj, if_true, Option.map_some, decide_true, not_false_eq_true, and_self, Bool.or_true, Bool.true_or]))
    | cases hi
theorem w_ast {ins : Instr} {a : Nat} {j : Int32} {ty : FieldType} {vs : List Value} {v v' : Value} {H' : AHeap} (hd : decode bytes pc = .ok (ins, 1)) (hi : stOk ins ty = true) (ho : H[a]? = some (.array ty, vs)) (hk : k ≤ a) (hj : ¬ j < 0) (hl : j.toNatClampNeg < vs.length) (hv : putv ty v = some v') (hH : H.set a (.array ty, vs.set j.toNatClampNeg v') = H') :
    W ws dn k y bytes ret pc ls (v :: .int j :: .ref a :: st) H Q = W ws dn k y bytes ret (pc + 1) ls st H' Q := by
  unfold stOk at hi
  split at hi
  all_goals first
    | exact W_step (act_h hd rfl (by simp only [hstep, chk, hSt, okT, okB, ho, hv, hj, hk, hl, hH, if_true, Option.map_some, decide_true, not_false_eq_true, and_self, Bool.or_true, Bool.true_or]))
    | cases hi
theorem w_ldc2 {i : Nat} {v : Int64} (hd : decode bytes pc = .ok (.ldc2_w i, 3)) (hr : rConL ws y.cls i = some v) : W ws dn k y bytes ret pc ls st H Q = W ws dn k y bytes ret (pc + 3) ls (.long v :: st) H Q :=
  W_step (act_h hd rfl (by simp only [hstep, chk, hr, if_true, Option.map_some]))
theorem w_iret {z : Int32} (hd : decode bytes pc = .ok (.ireturn, 1)) (hr : ret = some .int) : W ws dn k y bytes ret pc ls (.int z :: st) H Q = Q (some (.int z)) H := by
  subst hr; exact W_ret (by rw [act_c hd rfl rfl]; rfl)
theorem w_iretN {z : Int32} {t : FieldType} (hd : decode bytes pc = .ok (.ireturn, 1)) (hr : ret = some t) (ht : t = .int ∨ t = .boolean ∨ t = .byte ∨ t = .char ∨ t = .short) : W ws dn k y bytes ret pc ls (.int z :: st) H Q = Q (some (.int (nar t z))) H := by
  subst hr; exact W_ret (by rw [act_c hd rfl rfl]; simp only [cstep, chk, if_true, ht])
theorem w_lret {z : Int64} (hd : decode bytes pc = .ok (.lreturn, 1)) (hr : ret = some .long) : W ws dn k y bytes ret pc ls [.long z] H Q = Q (some (.long z)) H := by
  subst hr; exact W_ret (by rw [act_c hd rfl rfl]; rfl)
theorem w_vret (hd : decode bytes pc = .ok (.return_, 1)) (hr : ret = none) : W ws dn k y bytes ret pc ls [] H Q = Q none H := by
  subst hr; exact W_ret (by rw [act_c hd rfl rfl]; rfl)
theorem w_obj {i sl : Nat} {a : Nat} (hd : decode bytes pc = .ok (.invokespecial i, 3)) (hr : oR ws dn y i = some sl) (hw : wsum st ≤ sl) : W ws dn k y bytes ret pc ls (.ref a :: st) H Q = W ws dn k y bytes ret (pc + 3) ls st H Q :=
  W_step (by rw [act_c hd rfl rfl]; simp only [cstep, chk, if_true, hr, hw])
theorem w_stat {i mx na sl : Nat} {y' : MethodName} {b : ByteArray} {r : Option FieldType} {as rest : List Value} {en : List Slot} (hd : decode bytes pc = .ok (.invokestatic i, 3)) (hr : sR ws dn y i = some (y', b, mx, r, na, sl)) (hn : as.length = na) (hw : wsum rest ≤ sl) (he : (ent as.reverse).length ≤ mx) (hen : entry as.reverse mx = en) :
    W ws dn k y bytes ret pc ls (as ++ rest) H Q = W ws dn k y' b r 0 en [] H (fun v H1 => W ws dn k y bytes ret (pc + 3) ls (v.toList ++ rest) H1 Q) := by
  subst hn hen
  have e1 : (as ++ rest).take as.length = as := by simp
  have e2 : (as ++ rest).drop as.length = rest := by simp
  exact W_call (by rw [act_c hd rfl rfl]; simp only [cstep, chk, if_true, hr, e1, e2, hw, he, List.length_append, Nat.le_add_right, and_self])
theorem w_spec {i mx na sl a : Nat} {y' : MethodName} {b : ByteArray} {r : Option FieldType} {as rest : List Value} {en : List Slot} (hd : decode bytes pc = .ok (.invokespecial i, 3)) (h0 : oR ws dn y i = none) (hr : nR ws dn y i = some (y', b, mx, r, na, sl)) (hn : as.length = na) (hw : wsum rest ≤ sl) (he : (ent (.ref a :: as.reverse)).length ≤ mx) (hen : entry (.ref a :: as.reverse) mx = en) :
    W ws dn k y bytes ret pc ls (as ++ .ref a :: rest) H Q = W ws dn k y' b r 0 en [] H (fun v H1 => W ws dn k y bytes ret (pc + 3) ls (v.toList ++ rest) H1 Q) := by
  subst hn hen
  have e1 : (as ++ .ref a :: rest).take as.length = as := by simp
  have e2 : (as ++ .ref a :: rest).drop as.length = .ref a :: rest := by simp
  exact W_call (by rw [act_c hd rfl rfl]; simp only [cstep, chk, if_true, h0, hr, e1, e2, hw, he, List.length_append, Nat.le_add_right, and_self])
theorem w_virt {i mx na sl a : Nat} {pv : Bool} {y' : MethodName} {b : ByteArray} {r : Option FieldType} {as rest : List Value} {en : List Slot} {C : String} {vs : List Value} (hd : decode bytes pc = .ok (.invokevirtual i, 3)) (hr : vR ws dn y i = some (pv, y', b, mx, r, na, sl)) (ho : H[a]? = some (.object C, vs)) (hC : C = y'.cls) (hn : as.length = na) (hw : wsum rest ≤ sl) (he : (ent (.ref a :: as.reverse)).length ≤ mx) (hen : entry (.ref a :: as.reverse) mx = en) :
    W ws dn k y bytes ret pc ls (as ++ .ref a :: rest) H Q = W ws dn k y' b r 0 en [] H (fun v H1 => W ws dn k y bytes ret (pc + 3) ls (v.toList ++ rest) H1 Q) := by
  subst hn hen hC
  have e1 : (as ++ .ref a :: rest).take as.length = as := by simp
  have e2 : (as ++ .ref a :: rest).drop as.length = .ref a :: rest := by simp
  exact W_call (by rw [act_c hd rfl rfl]; simp only [cstep, chk, if_true, hr, e1, e2, ho, hw, he, List.length_append, Nat.le_add_right, and_self, or_true])
end
theorem law_of {Z : State} {a0 : Array Value} {ws : Ws} {dn : Dn} {k sa n0 : Nat} (hw : ∀ d ∈ ws, d.before a0 Z = true) (l : Launch) {y : MethodName} {b : ByteArray} {mx f lc rc rs : Nat} {r : Option FieldType} (wsx : List Jvm.Cond) (hp : Jvm.plainName y.cls = true) {as : List Value} (he : (ent as).length ≤ mx) {H : AHeap}
    (hW : W ws dn k y b r 0 (entry as mx) [] H (fun v H1 => v = some (.int 1) ∧ H1.length - H.length ≤ rc ∧ tot ws H1 - tot ws H ≤ rs)) (hdn : ∀ f' l', dnOf dn y = some (f', l') → f' ≤ f ∧ l' ≤ lc) {h : Heap} (S : Sim Z ws k sa n0 H h) :
    MetFree l y (head1 (Jvm.Cond.code y b mx r :: wsx) ({ frames := f, cells := rc, slots := rs, locals := lc } : Room)) (fun a U => a = (as.map (ren (adr k sa n0))).toArray ∧ Z.Warmed39 U.vm ∧ U.heap = h) (fun _ _ _ _ _ => True)
      (fun _ U o U' => ∃ w L, o = .returned w ∧ (w = some (.int 1) ∧ Fr n0 L) ∧ FrameEnd U o U' L rc rs) := by
  obtain ⟨n, v, H1, h1, rfl, h3, h4⟩ := hW
  have M := met_of (snd hw n) l wsx hp he h1 hdn S h3 h4
  intro p e ha hc hk s m args below hf happ hP hK
  obtain ⟨n', o, g1, g2, g3, w, L, rfl, ⟨rfl, -, N⟩, F⟩ := M p e ha hc hk s m args below hf happ hP hK
  exact ⟨n', _, g1, g2, g3, _, L, rfl, ⟨rfl, N⟩, F.1, F.2.1, F.2.2.mono h3 h4⟩
theorem Sim.empty (Z : State) (ws : Ws) (h : Heap) : Sim Z ws 0 0 h.size [] h :=
  ⟨by simp, Nat.le_refl _, Nat.zero_le _, (fun q => absurd q (by decide)), (fun i o q => by simp at q)⟩
end Jvm.Own
namespace Jvm.Own
open Sem ClassFile Op Lib Jvm.Stand Jvm.Free Jvm.LawKit Jvm.RoadKit
def ou {α : Type} (s : Nat → α) (i : Nat) (v : α) : Nat → α := fun j => if j = i then v else s j
theorem ou_a {α : Type} (s : Nat → α) (i : Nat) (v : α) (j : Nat) : ou s i v j = if j = i then v else s j := rfl
def pad (b : Nat) (pre : AHeap) : AHeap := (pre ++ List.replicate b (FieldType.int, [])).take b
theorem pad_len (b : Nat) (pre : AHeap) : (pad b pre).length = b := by simp [pad]
theorem pad_eq {b : Nat} {pre : AHeap} (h : pre.length = b) : pad b pre = pre := by subst h; simp [pad]
theorem pad_0 (pre : AHeap) : pad 0 pre = [] := by simp [pad]
theorem tot_cons (ws : Ws) (o : FieldType × List Value) (r : AHeap) : tot ws (o :: r) = cost ws o + tot ws r := by simp [tot]
theorem tot_append (ws : Ws) (a r : AHeap) : tot ws (a ++ r) = tot ws a + tot ws r := by simp [tot]
theorem tot_nil (ws : Ws) : tot ws [] = 0 := rfl
theorem pad_get (b : Nat) (pre r : AHeap) (i : Nat) : (pad b pre ++ r)[b + i]? = r[i]? := by
  rw [List.getElem?_append_right (by rw [pad_len]; omega), pad_len]; congr 1; omega
theorem pad_get0 (b : Nat) (pre r : AHeap) : (pad b pre ++ r)[b]? = r[0]? := pad_get b pre r 0
theorem pad_set (b : Nat) (pre r : AHeap) (i : Nat) (o : FieldType × List Value) : (pad b pre ++ r).set (b + i) o = pad b pre ++ r.set i o := by
  rw [List.set_append_right _ _ (by rw [pad_len]; omega), pad_len]; congr 2; omega
theorem pad_set0 (b : Nat) (pre r : AHeap) (o : FieldType × List Value) : (pad b pre ++ r).set b o = pad b pre ++ r.set 0 o := pad_set b pre r 0 o
theorem rCode_of {ws : Ws} {y : MethodName} {b : ByteArray} {m i : Nat} {r : Option FieldType} (h : ws[i]? = some (.code y b m r)) (h2 : (ws.take i).all (fun d => match d with | .code z _ _ _ => !decide (z = y) | _ => true) = true) : rCode ws y = some (b, m, r) := by
  have e : ws = ws.take i ++ (.code y b m r :: ws.drop (i + 1)) := by
    obtain ⟨hi, hg⟩ := List.getElem?_eq_some_iff.mp h
    rw [← hg, ← List.drop_eq_getElem_cons hi, List.take_append_drop]
  unfold rCode
  rw [e, List.findSome?_append]
  have e1 : (ws.take i).findSome? (fun d => match d with | .code z b m r => if z = y then some (b, m, r) else none | _ => none) = none := by
    rw [List.findSome?_eq_none_iff]
    intro d hd
    have q := List.all_eq_true.mp h2 d hd
    split
    · rename_i z b' m' r'
      simp at q
      simp [q]
    · rfl
  rw [e1]
  simp
theorem cR_of {ws : Ws} {dn : Dn} {y y' : MethodName} {b : ByteArray} {mx i f' l' f l na sl : Nat} {r : Option FieldType} {sig : MethodDescriptor} (h1 : rMth ws y.cls i = some y') (h2 : rCode ws y' = some (b, mx, r)) (h3 : dnOf dn y' = some (f', l')) (h4 : dnOf dn y = some (f, l)) (h5 : parseMethodDescriptor y'.desc = some sig)
    (h6 : decide (hasInit ws y'.cls = true ∧ Jvm.plainName y'.cls = true ∧ y'.cls ≠ "java/lang/invoke/MethodHandle" ∧ y'.cls ≠ "java/lang/invoke/VarHandle" ∧ f' + 1 ≤ f ∧ mx + 11 + l' ≤ l) = true) (h7 : sig.parameters.length = na) (h8 : l - (mx + 11 + l') = sl) : cR ws dn y i = some (y', b, mx, r, na, sl) := by
  subst h7 h8
  unfold cR
  rw [h1]; dsimp only
  rw [h2, h3, h4, h5]; dsimp only
  rw [if_pos (of_decide_eq_true h6)]
theorem sR_of {ws : Ws} {dn : Dn} {y : MethodName} {i : Nat} {q : MethodName × ByteArray × Nat × Option FieldType × Nat × Nat} (h : cR ws dn y i = some q) (hs : hasStat ws q.1 = true) : sR ws dn y i = some q := by
  unfold sR; rw [h]; dsimp only; rw [if_pos hs]
theorem nR_of {ws : Ws} {dn : Dn} {y : MethodName} {i : Nat} {q : MethodName × ByteArray × Nat × Option FieldType × Nat × Nat} (h : cR ws dn y i = some q) (h1 : q.1.name = "<init>") (h2 : hasIM ws q.1 = true) (h3 : q.2.2.2.1 = none) : nR ws dn y i = some q := by
  unfold nR; rw [h]; dsimp only; rw [if_pos ⟨h1, h2, h3⟩]
theorem vR_of {ws : Ws} {dn : Dn} {y : MethodName} {i : Nat} {q : MethodName × ByteArray × Nat × Option FieldType × Nat × Nat} (h : cR ws dn y i = some q) (h1 : hasIM ws q.1 = true) (h2 : decide (hasPriv ws q.1 = true ∧ (rInst ws q.1.cls).isSome = true) = false) (h3 : decide (hasDecl ws q.1 = true ∧ hasSel ws q.1 = true) = true) : vR ws dn y i = some (false, q) := by
  unfold vR; rw [h]; dsimp only; rw [if_pos h1, if_neg (of_decide_eq_false h2), if_pos (of_decide_eq_true h3)]
theorem pR_of {ws : Ws} {dn : Dn} {y : MethodName} {i : Nat} {q : MethodName × ByteArray × Nat × Option FieldType × Nat × Nat} (h : cR ws dn y i = some q) (h1 : hasIM ws q.1 = true) (h2 : decide (hasPriv ws q.1 = true ∧ (rInst ws q.1.cls).isSome = true) = true) : vR ws dn y i = some (true, q) := by
  unfold vR; rw [h]; dsimp only; rw [if_pos h1, if_pos (of_decide_eq_true h2)]
def inB {α : Type} (j : Int32) (l : List α) : Prop := ¬ j < 0 ∧ j.toNatClampNeg < l.length
def getA (l : List Int32) (j : Int32) : Int32 := l.getD j.toNatClampNeg 0
def getL (l : List Int64) (j : Int32) : Int64 := l.getD j.toNatClampNeg 0
def setA {α : Type} (l : List α) (j : Int32) (v : α) : List α := l.set j.toNatClampNeg v
def c1 : Slot → Bool
  | .unset => true
  | .second => false
  | .val v => v.category == 1
theorem i_eq (x y : Int32) : if_icmp.holds .eq x y = decide (x = y) := by simp only [if_icmp.holds]; by_cases h : x = y <;> simp [h]
theorem i_ne (x y : Int32) : if_icmp.holds .ne x y = !decide (x = y) := by simp only [if_icmp.holds]; by_cases h : x = y <;> simp [h]
theorem i_lt (x y : Int32) : if_icmp.holds .lt x y = decide (x < y) := rfl
theorem i_gt (x y : Int32) : if_icmp.holds .gt x y = decide (y < x) := rfl
theorem i_ge (x y : Int32) : if_icmp.holds .ge x y = !decide (x < y) := by
  show decide (y ≤ x) = _
  have e1 : (y ≤ x) ↔ ¬ (x < y) := by rw [Int32.le_iff_toInt_le, Int32.lt_iff_toInt_lt]; omega
  by_cases h : x < y
  · have : ¬ y ≤ x := fun g => e1.mp g h
    simp [h, this]
  · have := e1.mpr h
    simp [h, this]
theorem i_le (x y : Int32) : if_icmp.holds .le x y = !decide (y < x) := i_ge y x
theorem z_eq (x : Int32) : ifCond.holds .eq x = decide (x = 0) := i_eq x 0
theorem z_ne (x : Int32) : ifCond.holds .ne x = !decide (x = 0) := i_ne x 0
theorem z_lt (x : Int32) : ifCond.holds .lt x = decide (x < 0) := rfl
theorem z_gt (x : Int32) : ifCond.holds .gt x = decide (0 < x) := rfl
theorem z_ge (x : Int32) : ifCond.holds .ge x = !decide (x < 0) := i_ge x 0
theorem z_le (x : Int32) : ifCond.holds .le x = !decide (0 < x) := i_le x 0
theorem nb0 : nar .boolean 0 = 0 := by decide
theorem nb1 : nar .boolean 1 = 1 := by decide
section
variable {ws : Ws} {dn : Dn} {k : Nat} {y : MethodName} {bytes : ByteArray} {ret : Option FieldType} {pc : Nat} {ls : List Slot} {st : List Value} {H : AHeap} {Q : Option Value → AHeap → Prop}
theorem W_stuck (h : act ws dn k y bytes ret pc ls st H = none) : W ws dn k y bytes ret pc ls st H Q = False := by
  refine propext ⟨fun ⟨n, v, H1, h1, h2⟩ => ?_, False.elim⟩
  cases n with
  | zero => cases h1
  | succ n => rw [run, h] at h1; cases h1
theorem stl_c1 {i : Nat} {o : Slot} {v : Value} (ho : ls[i]? = some o) (hc : c1 o = true) (hv : v.category = 1) : stl ls i v = some (ls.set i (.val v)) := by
  have h := XS.store1 (l := ls.toArray) (i := i) (v := v) (o := o) (by simpa using ho) (by
    cases o with
    | unset => exact Or.inl rfl
    | second => cases hc
    | val w => exact Or.inr ⟨w, rfl, by simpa [c1] using hc⟩) hv
  unfold stl
  rw [h]; simp
theorem w_st {ins : Instr} {len i : Nat} {o : Slot} {v : Value} {p : Value → Bool} {nx : Nat} {ls' : List Slot} (hd : decode bytes pc = .ok (ins, len)) (hx : xstep ins len pc ls (v :: st) = stV p nx i ls (v :: st)) (hp : p v = true) (hv : v.category = 1) (ho : ls[i]? = some o) (hs : ls.set i (.val v) = ls') (hc : c1 o = true) :
    W ws dn k y bytes ret pc ls (v :: st) H Q = W ws dn k y bytes ret nx ls' st H Q := by
  subst hs
  exact w_x hd (by rw [hx]; simp only [stV, hp, if_true, stl_c1 ho hc hv, Option.map_some])
theorem w_iinc {i : Nat} {c : Int} {x z : Int32} {ls' : List Slot} (hd : decode bytes pc = .ok (.iinc i c, 3)) (ho : ls[i]? = some (.val (.int x))) (hz : Int32.ofInt c = z) (hs : ls.set i (.val (.int (x + z))) = ls') :
    W ws dn k y bytes ret pc ls st H Q = W ws dn k y bytes ret (pc + 3) ls' st H Q := by
  subst hs hz
  exact w_x hd (by simp only [xstep, chk, if_true, ho, stl_c1 (v := .int (x + Int32.ofInt c)) ho rfl rfl, Option.map_some])
theorem w_con {ins : Instr} {len nx : Nat} {v v' : Value} (hd : decode bytes pc = .ok (ins, len)) (hx : xstep ins len pc ls st = some (nx, ls, v :: st)) (hv : v = v') : W ws dn k y bytes ret pc ls st H Q = W ws dn k y bytes ret nx ls (v' :: st) H Q := by
  subst hv; exact w_x hd hx
theorem w_ifN {cd : ClassFile.Cond} {o : Int} {x : Int32} {t : Nat} {P : Prop} [Decidable P] (hd : decode bytes pc = .ok (.ifCond cd o, 3)) (hp : ifCond.holds cd x = !decide P) (hj : jmp pc o = some t) :
    W ws dn k y bytes ret pc ls (.int x :: st) H Q = if P then W ws dn k y bytes ret (pc + 3) ls st H Q else W ws dn k y bytes ret t ls st H Q := by
  split
  · exact w_x hd (by simp only [xstep, chk, br, hp, hj, if_true]; simp [*])
  · exact w_x hd (by simp only [xstep, chk, br, hp, hj, if_true]; simp [*])
theorem w_icmpN {cd : ClassFile.Cond} {o : Int} {x1 x2 : Int32} {t : Nat} {P : Prop} [Decidable P] (hd : decode bytes pc = .ok (.if_icmp cd o, 3)) (hp : if_icmp.holds cd x1 x2 = !decide P) (hj : jmp pc o = some t) :
    W ws dn k y bytes ret pc ls (.int x2 :: .int x1 :: st) H Q = if P then W ws dn k y bytes ret (pc + 3) ls st H Q else W ws dn k y bytes ret t ls st H Q := by
  split
  · exact w_x hd (by simp only [xstep, chk, br, hp, hj, if_true]; simp [*])
  · exact w_x hd (by simp only [xstep, chk, br, hp, hj, if_true]; simp [*])
theorem ld_stuck {ins : Instr} {a : Nat} {j : Int32} {ty : FieldType} {vs : List Value} (hd : decode bytes pc = .ok (ins, 1)) (hi : ldOk ins ty = true) (ho : H[a]? = some (.array ty, vs)) (hj : ¬ (¬ j < 0 ∧ j.toNatClampNeg < vs.length)) : act ws dn k y bytes ret pc ls (.int j :: .ref a :: st) H = none := by
  have hv : j < 0 ∨ vs[j.toNatClampNeg]? = none := by
    by_cases q : j < 0
    · exact Or.inl q
    · exact Or.inr (List.getElem?_eq_none (Nat.le_of_not_lt fun g => hj ⟨q, g⟩))
  unfold ldOk at hi
  split at hi
  all_goals first
    | (rw [act_c hd rfl (by rcases hv with q | q <;> simp [hstep, chk, hLd, okT, okB, ho, q])]; rfl)
    | cases hi
theorem st_stuck {ins : Instr} {a : Nat} {j : Int32} {ty : FieldType} {vs : List Value} {v : Value} (hd : decode bytes pc = .ok (ins, 1)) (hi : stOk ins ty = true) (ho : H[a]? = some (.array ty, vs)) (hj : ¬ (¬ j < 0 ∧ j.toNatClampNeg < vs.length)) : act ws dn k y bytes ret pc ls (v :: .int j :: .ref a :: st) H = none := by
  have hv : ¬ (¬ j < 0 ∧ j.toNatClampNeg < vs.length) := hj
  unfold stOk at hi
  split at hi
  all_goals first
    | (rw [act_c hd rfl (by simp only [hstep, chk, hSt, okT, okB, ho, if_true]; rw [if_neg (fun q => hv q.2.2)])]; rfl)
    | cases hi
theorem w_ild {ins : Instr} {a : Nat} {j : Int32} {ty : FieldType} {l : List Int32} (hd : decode bytes pc = .ok (ins, 1)) (hi : ldOk ins ty = true) (ho : H[a]? = some (.array ty, l.map Value.int)) :
    W ws dn k y bytes ret pc ls (.int j :: .ref a :: st) H Q = (inB j l ∧ W ws dn k y bytes ret (pc + 1) ls (.int (getA l j) :: st) H Q) := by
  by_cases h : inB j l
  · rw [w_ald hd hi ho h.1 (v := .int (getA l j)) (by simp [getA, h.2])]
    simp [h]
  · rw [W_stuck (ld_stuck hd hi ho (by simpa [inB] using h))]
    simp [h]
theorem w_lld {a : Nat} {j : Int32} {l : List Int64} (hd : decode bytes pc = .ok (.laload, 1)) (ho : H[a]? = some (.array .long, l.map Value.long)) :
    W ws dn k y bytes ret pc ls (.int j :: .ref a :: st) H Q = (inB j l ∧ W ws dn k y bytes ret (pc + 1) ls (.long (getL l j) :: st) H Q) := by
  by_cases h : inB j l
  · rw [w_ald hd rfl ho h.1 (v := .long (getL l j)) (by simp [getL, h.2])]
    simp [h]
  · rw [W_stuck (ld_stuck hd rfl ho (by simpa [inB] using h))]
    simp [h]
theorem w_ist {ins : Instr} {a : Nat} {j v v' : Int32} {ty : FieldType} {l : List Int32} {H' : AHeap} (hd : decode bytes pc = .ok (ins, 1)) (hi : stOk ins ty = true) (ho : H[a]? = some (.array ty, l.map Value.int)) (hk : k ≤ a) (hv : putv ty (.int v) = some (.int v')) (hH : H.set a (.array ty, (setA l j v').map Value.int) = H') :
    W ws dn k y bytes ret pc ls (.int v :: .int j :: .ref a :: st) H Q = (inB j l ∧ W ws dn k y bytes ret (pc + 1) ls st H' Q) := by
  by_cases h : inB j l
  · rw [w_ast (H' := H') hd hi ho hk h.1 (by simpa using h.2) hv (by rw [← hH, setA, List.map_set])]
    simp [h]
  · rw [W_stuck (st_stuck hd hi ho (by simpa [inB] using h))]
    simp [h]
theorem w_lst {a : Nat} {j : Int32} {v : Int64} {l : List Int64} {H' : AHeap} (hd : decode bytes pc = .ok (.lastore, 1)) (ho : H[a]? = some (.array .long, l.map Value.long)) (hk : k ≤ a) (hH : H.set a (.array .long, (setA l j v).map Value.long) = H') :
    W ws dn k y bytes ret pc ls (.long v :: .int j :: .ref a :: st) H Q = (inB j l ∧ W ws dn k y bytes ret (pc + 1) ls st H' Q) := by
  by_cases h : inB j l
  · rw [w_ast (H' := H') hd rfl ho hk h.1 (by simpa using h.2) rfl (by rw [← hH, setA, List.map_set])]
    simp [h]
  · rw [W_stuck (st_stuck hd rfl ho (by simpa [inB] using h))]
    simp [h]
theorem w_div {ins : Instr} {f : Int32 → Int32 → Int32} {x z : Int32} (hd : decode bytes pc = .ok (ins, 1)) (hx : ∀ st, xstep ins 1 pc ls st = d2 f (pc + 1) ls st) (hh : hstep ws k y ins 1 pc (.int z :: .int x :: st) H = none) (hc : cstep ws dn y ret ins 1 pc ls (.int z :: .int x :: st) H = none) :
    W ws dn k y bytes ret pc ls (.int z :: .int x :: st) H Q = (z ≠ 0 ∧ W ws dn k y bytes ret (pc + 1) ls (.int (f x z) :: st) H Q) := by
  by_cases h : z = 0
  · rw [W_stuck (by rw [act_c hd (by rw [hx]; simp [d2, h]) hh, hc])]; simp [h]
  · rw [w_x (pc' := pc + 1) (ls' := ls) (st' := .int (f x z) :: st) hd (by rw [hx]; simp only [d2, h, if_false])]; simp [h]
theorem w_iarr {i j p1 p2 p3 : Nat} {C : String} {vs : List Value} {r : AHeap} {n : Int32} {v : Value} {aty : ArrayType} {ty at' : FieldType} {l0 : Slot} {lr : List Slot} {ins : Instr} {len : Nat} {b : Nat} (hl : l0 = .val (.ref b)) (hH : H.length = b) (hk : k ≤ b)
    (d0 : decode bytes pc = .ok (.aload_n 0, 1)) (e0 : pc + 1 = p1) (dn1 : decode bytes p1 = .ok (ins, len)) (hx : ∀ st, xstep ins len p1 (l0 :: lr) st = some (p2, l0 :: lr, v :: st)) (hv : v = .int n) (d2' : decode bytes p2 = .ok (.newarray aty, 2)) (ht : newarray.typeOf aty = ty) (hr : hasArr ws ty = true) (hn : ¬ n < 0) (hb : n.toNatClampNeg * 8 ≤ 536870912) (e3 : p2 + 2 = p3)
    (d3 : decode bytes p3 = .ok (.putfield i, 3)) (hp : pfR ws y.cls y.name i = some (C, j, .array at')) (hj : j < vs.length) :
    W ws dn k y bytes ret pc (l0 :: lr) [] (H ++ (.object C, vs) :: r) Q = W ws dn k y bytes ret (p3 + 3) (l0 :: lr) [] (H ++ (.object C, vs.set j (.ref (b + (r.length + 1)))) :: (r ++ [(.array ty, List.replicate n.toNatClampNeg (defaultValue ty))])) Q := by
  subst hl e0 e3 hv hH
  rw [w_x d0 (ls' := .val (.ref H.length) :: lr) (st' := [.ref H.length]) (pc' := pc + 1) rfl, w_x dn1 (hx _), w_newA d2' ht hr hn hb]
  have e1 : (H ++ (FieldType.object C, vs) :: r).length = H.length + (r.length + 1) := by simp
  rw [e1, w_put d3 hp (vs := vs) (H' := H ++ (.object C, vs.set j (.ref (H.length + (r.length + 1)))) :: (r ++ [(.array ty, List.replicate n.toNatClampNeg (defaultValue ty))])) (by simp) hk hj rfl (by simp)]
theorem w_iint {i j p1 p2 : Nat} {C : String} {vs : List Value} {r : AHeap} {v v0 v' : Value} {ty : FieldType} {l0 : Slot} {lr : List Slot} {ins : Instr} {len : Nat} {b : Nat} (hl : l0 = .val (.ref b)) (hH : H.length = b) (hk : k ≤ b)
    (d0 : decode bytes pc = .ok (.aload_n 0, 1)) (e0 : pc + 1 = p1) (dn1 : decode bytes p1 = .ok (ins, len)) (hx : ∀ st, xstep ins len p1 (l0 :: lr) st = some (p2, l0 :: lr, v0 :: st)) (hv : v0 = v)
    (d3 : decode bytes p2 = .ok (.putfield i, 3)) (hp : pfR ws y.cls y.name i = some (C, j, ty)) (hv' : putv ty v = some v') (hj : j < vs.length) :
    W ws dn k y bytes ret pc (l0 :: lr) [] (H ++ (.object C, vs) :: r) Q = W ws dn k y bytes ret (p2 + 3) (l0 :: lr) [] (H ++ (.object C, vs.set j v') :: r) Q := by
  subst hl e0 hv hH
  rw [w_x d0 (ls' := .val (.ref H.length) :: lr) (st' := [.ref H.length]) (pc' := pc + 1) rfl, w_x dn1 (hx _)]
  rw [w_put d3 hp (vs := vs) (H' := H ++ (.object C, vs.set j v') :: r) (by simp) hk hj hv' (by simp)]
end
end Jvm.Own
namespace Jvm.Own
open Sem ClassFile Op Lib Jvm.Stand Jvm.Free Jvm.LawKit Jvm.RoadKit
theorem getA_rep (n : Nat) (j : Int32) : getA (List.replicate n 0) j = 0 := by
  simp only [getA, List.getD_eq_getElem?_getD, List.getElem?_replicate]
  split <;> rfl
end Jvm.Own
namespace Jvm.Own
open Sem ClassFile Op Lib Jvm.Stand Jvm.Free Jvm.LawKit Jvm.RoadKit
theorem toNat_eq (j : Int32) : j.toNatClampNeg = j.toInt.toNat := rfl
theorem lt_i {x y : Int32} : x < y ↔ x.toInt < y.toInt := Int32.lt_iff_toInt_lt
theorem inB_iff {α : Type} {j : Int32} {l : List α} : inB j l ↔ 0 ≤ j.toInt ∧ j.toInt < (l.length : Int) := by
  have e0 : (0 : Int32).toInt = 0 := rfl
  unfold inB
  rw [lt_i, toNat_eq, e0]
  omega
theorem setA_len {α : Type} (l : List α) (j : Int32) (v : α) : (setA l j v).length = l.length := List.length_set
theorem getA_set2 (l : List Int32) (i j v : Int32) : getA (setA l i v) j = if j.toNatClampNeg = i.toNatClampNeg ∧ i.toNatClampNeg < l.length then v else getA l j := by
  simp only [getA, setA, List.getD_eq_getElem?_getD, List.getElem?_set]
  by_cases e : j.toNatClampNeg = i.toNatClampNeg
  · rw [e]
    by_cases q : i.toNatClampNeg < l.length <;> simp [q]
  · simp [e, Ne.symm e]
theorem len_ou {B A : Nat → List Int32} {j : Nat} {l : List Int32} (h : ∀ i, (A i).length = (B i).length) (hl : l.length = (B j).length) : ∀ i, (ou A j l i).length = (B i).length := fun i => by
  rw [ou_a]
  split
  · rename_i e; rw [e]; exact hl
  · exact h i
end Jvm.Own
namespace Jvm.Own
open Sem ClassFile Op Lib Jvm.Stand Jvm.Free Jvm.LawKit Jvm.RoadKit
theorem ou_same {α : Type} (s : Nat → α) (i : Nat) (v w : α) : ou (ou s i v) i w = ou s i w := by
  funext j
  simp only [ou_a]
  by_cases h : j = i <;> simp [h]
theorem ou_comm {α : Type} {s : Nat → α} {i j : Nat} {v w : α} (h : j < i) : ou (ou s i v) j w = ou (ou s j w) (i + 0) v := by
  show ou (ou s i v) j w = ou (ou s j w) i v
  funext k
  simp only [ou_a]
  by_cases h1 : k = j
  · have h2 : ¬ k = i := by omega
    simp [h1]
    intro h3; omega
  · simp [h1]
theorem setA_same {α : Type} (l : List α) (i : Int32) (v w : α) : setA (setA l i v) i w = setA l i w := by
  simp only [setA, List.set_set]
theorem and_bd (x m : Int32) (hm : m.toBitVec.toNat < 2147483648) : 0 ≤ (x &&& m).toInt ∧ (x &&& m).toInt ≤ (m.toBitVec.toNat : Int) := by
  have h : (x &&& m).toBitVec.toNat ≤ m.toBitVec.toNat := by
    rw [Int32.toBitVec_and, BitVec.toNat_and]
    exact Nat.and_le_right
  have e : (x &&& m).toInt = ((x &&& m).toBitVec.toNat : Int) := BitVec.toInt_eq_toNat_of_lt (by omega)
  rw [e]
  omega
theorem rng {x : Int32} {n : Nat} (h0 : 0 ≤ x.toInt) (h1 : x.toInt < n) : ∃ k, k < n ∧ x = Int32.ofNat k := by
  have e : (x.toInt.toNat : Int) = x.toInt := Int.toNat_of_nonneg h0
  refine ⟨x.toInt.toNat, by omega, ?_⟩
  have e2 : Int32.ofNat x.toInt.toNat = Int32.ofInt (x.toInt.toNat : Int) := rfl
  rw [e2, e, Int32.ofInt_toInt]
theorem getL_set2 (l : List Int64) (i j : Int32) (v : Int64) : getL (setA l i v) j = if j.toNatClampNeg = i.toNatClampNeg ∧ i.toNatClampNeg < l.length then v else getL l j := by
  simp only [getL, setA, List.getD_eq_getElem?_getD, List.getElem?_set]
  by_cases e : j.toNatClampNeg = i.toNatClampNeg
  · rw [e]
    by_cases q : i.toNatClampNeg < l.length <;> simp [q]
  · simp [e, Ne.symm e]
theorem add_i {a b : Int32} (h : -2147483648 ≤ a.toInt + b.toInt) (h' : a.toInt + b.toInt < 2147483648) : (a + b).toInt = a.toInt + b.toInt := by
  rw [Int32.toInt_add]
  have e : ((2 ^ 32 : Nat) : Int) = 4294967296 := rfl
  exact Int.bmod_eq_of_le (by rw [e]; omega) (by rw [e]; omega)
theorem i_0 : (0 : Int32).toInt = 0 := rfl
theorem i_1 : (1 : Int32).toInt = 1 := rfl
theorem add1_i {a : Int32} (h : a.toInt < 2147483647) : (a + 1).toInt = a.toInt + 1 := by
  have := Int32.le_toInt a
  exact add_i (by rw [i_1]; omega) (by rw [i_1]; omega)
theorem nn_i {a : Int32} : ¬ a < 0 ↔ 0 ≤ a.toInt := by rw [lt_i, i_0]; omega
def okS (l : Slot) : Prop := l = .unset ∨ ∃ z : Int32, l = .val (.int z)
theorem okS_u : okS .unset := Or.inl rfl
theorem okS_i (z : Int32) : okS (.val (.int z)) := Or.inr ⟨z, rfl⟩
end Jvm.Own

namespace Jvm.Pilot.@@N@@
open Jvm Jvm.ClassFile Sem Op Lib Jvm.Free Jvm.Stand Jvm.LawKit Jvm.RoadKit Bundle Jvm.Own Jvm.Pilot.@@N@@.Jvm.D
/-- frames and words that each method asks -/
def dn : Dn := [(⟨"MacroAssembler", "<init>", "(I)V"⟩, 1, 12), (⟨"MacroAssembler", "feedLong", "(J)I"⟩, 1, 17), (⟨"MacroAssembler", "byteOf", "(JI)I"⟩, 0, 0), (⟨"MacroAssembler", "validChar", "(I)Z"⟩, 0, 0), (⟨"MacroAssembler", "resetResult", "()V"⟩, 0, 0), (⟨"MacroAssembler", "assemble", "()I"⟩, 9, 137), (⟨"MacroAssembler", "startRun", "()V"⟩, 1, 14), (⟨"MacroAssembler", "splitLines", "()V"⟩, 0, 0), (⟨"MacroAssembler", "setInput", "(II)V"⟩, 0, 0), (⟨"MacroAssembler", "step", "()V"⟩, 8, 124), (⟨"MacroAssembler", "copyLine", "(I)V"⟩, 0, 0), (⟨"MacroAssembler", "normalLine", "()V"⟩, 7, 103), (⟨"MacroAssembler", "findLabel", "()V"⟩, 3, 41), (⟨"MacroAssembler", "skipSpaces", "(I)I"⟩, 0, 0), (⟨"MacroAssembler", "identStart", "(I)Z"⟩, 0, 0), (⟨"MacroAssembler", "identEnd", "(I)I"⟩, 2, 26), (⟨"MacroAssembler", "identChar", "(I)Z"⟩, 1, 13), (⟨"MacroAssembler", "isDigit", "(I)Z"⟩, 0, 0), (⟨"MacroAssembler", "pack", "(II)J"⟩, 0, 0), (⟨"MacroAssembler", "wordAt", "(I)J"⟩, 3, 41), (⟨"MacroAssembler", "kwCode", "(I)J"⟩, 1, 19), (⟨"MacroAssembler", "word", "(IIIII)J"⟩, 0, 0), (⟨"MacroAssembler", "formMacro", "()V"⟩, 4, 60), (⟨"MacroAssembler", "tokenize", "(I)V"⟩, 3, 41), (⟨"MacroAssembler", "addTok", "(IIJ)V"⟩, 0, 0), (⟨"MacroAssembler", "kwIndex", "(J)I"⟩, 2, 32), (⟨"MacroAssembler", "macroFind", "(J)I"⟩, 0, 0), (⟨"MacroAssembler", "defLine", "(I)V"⟩, 5, 69), (⟨"MacroAssembler", "firstWord", "(I)J"⟩, 4, 55), (⟨"MacroAssembler", "callMacro", "(II)V"⟩, 5, 74), (⟨"MacroAssembler", "defineLabel", "()V"⟩, 4, 62), (⟨"MacroAssembler", "countArgs", "(II)I"⟩, 0, 0), (⟨"MacroAssembler", "push", "(I)Z"⟩, 0, 0), (⟨"MacroAssembler", "splitArgs", "(III)V"⟩, 1, 19), (⟨"MacroAssembler", "storeArg", "(III)V"⟩, 0, 0), (⟨"MacroAssembler", "outerLine", "()I"⟩, 0, 0), (⟨"MacroAssembler", "substitute", "(I)V"⟩, 3, 43), (⟨"MacroAssembler", "topCall", "()I"⟩, 0, 0), (⟨"MacroAssembler", "putLocal", "(III)I"⟩, 2, 26), (⟨"MacroAssembler", "put", "(I)V"⟩, 0, 0), (⟨"MacroAssembler", "toDigits", "(I)V"⟩, 0, 0), (⟨"MacroAssembler", "putArg", "(II)V"⟩, 1, 13), (⟨"MacroAssembler", "statement", "(I)V"⟩, 6, 90), (⟨"MacroAssembler", "lexNumber", "(I)I"⟩, 1, 16), (⟨"MacroAssembler", "formOperand", "(I)V"⟩, 5, 74), (⟨"MacroAssembler", "define", "(JI)V"⟩, 3, 47), (⟨"MacroAssembler", "symFind", "(J)I"⟩, 0, 0), (⟨"MacroAssembler", "parseExpr", "(I)I"⟩, 2, 32), (⟨"MacroAssembler", "emit", "(I)V"⟩, 0, 0), (⟨"MacroAssembler", "exhausted", "()V"⟩, 1, 14), (⟨"MacroAssembler", "addIdent", "(JI)V"⟩, 1, 15), (⟨"MacroAssembler", "addFixup", "(I)V"⟩, 0, 0), (⟨"MacroAssembler", "formSimple", "(I)V"⟩, 5, 74), (⟨"MacroAssembler", "finish", "()V"⟩, 1, 15), (⟨"MacroAssembler", "buildListing", "()V"⟩, 4, 64), (⟨"MacroAssembler", "putName", "(J)V"⟩, 1, 18), (⟨"MacroAssembler", "nameLen", "(J)I"⟩, 0, 0), (⟨"MacroAssembler", "nameChar", "(JII)I"⟩, 0, 0), (⟨"MacroAssembler", "lstPut", "(I)V"⟩, 0, 0), (⟨"MacroAssembler", "putKw", "(I)V"⟩, 2, 35), (⟨"MacroAssembler", "putNum", "(I)V"⟩, 1, 16), (⟨"MacroAssembler", "listOne", "(I)I"⟩, 3, 50), (⟨"MacroAssembler", "imageByte", "(I)I"⟩, 1, 13), (⟨"MacroAssembler", "imageLength", "()I"⟩, 0, 0), (⟨"MacroAssembler", "symbolCount", "()I"⟩, 0, 0), (⟨"MacroAssembler", "symbolValue", "(I)I"⟩, 1, 13), (⟨"MacroAssembler", "symbolNameChar", "(II)I"⟩, 1, 18), (⟨"MacroAssembler", "expansionCount", "()I"⟩, 0, 0), (⟨"MacroAssembler", "errorLine", "()I"⟩, 0, 0), (⟨"MacroAssemblerL3", "callLine", "(I)J"⟩, 0, 0), (⟨"MacroAssemblerL3", "op", "(LMacroAssembler;II)I"⟩, 2, 26), (⟨"MacroAssemblerL3", "law", "(III)Z"⟩, 10, 150)]
def objv (b : Nat) (s : Nat → Int32) (L : Nat → Int64) : List Value := [.int (s 0), .int (s 1), .int (s 2), .int (s 3), .int (s 4), .int (s 5), .int (s 6), .int (s 7), .int (s 8), .int (s 9), .int (s 10), .int (s 11), .int (s 12), .int (s 13), .int (s 14), .int (s 15), .int (s 16), .int (s 17), .int (s 18), .int (s 19), .int (s 20), .ref (b + 1), .ref (b + 2), .ref (b + 3), .ref (b + 4), .ref (b + 5), .ref (b + 6), .ref (b + 7), .ref (b + 8), .ref (b + 9), .ref (b + 10), .ref (b + 11), .ref (b + 12), .ref (b + 13), .ref (b + 14), .ref (b + 15), .ref (b + 16), .ref (b + 17), .ref (b + 18), .ref (b + 19), .ref (b + 20), .ref (b + 21), .ref (b + 22), .ref (b + 23), .ref (b + 24), .ref (b + 25), .ref (b + 26), .ref (b + 27), .ref (b + 28), .ref (b + 29), .ref (b + 30), .ref (b + 31), .ref (b + 32), .ref (b + 33), .ref (b + 34), .int (s 21), .int (s 22), .int (s 24), .int (s 26), .int (s 28), .int (s 27), .int (s 25), .int (s 29), .int (s 31), .int (s 33), .int (s 41), .int (s 42), .int (s 40), .int (s 54), .int (s 37), .int (s 38), .int (s 39), .int (s 32), .int (s 44), .int (s 45), .int (s 43), .int (s 23), .int (s 34), .int (s 35), .int (s 36), .int (s 46), .int (s 47), .int (s 48), .int (s 49), .int (s 30), .long (L 0), .int (s 50), .int (s 51), .int (s 52), .int (s 53)]
def put (b : Nat) (pre : AHeap) (s : Nat → Int32) (A : Nat → List Int32) (L : Nat → Int64) (B : Nat → List Int64) (post : AHeap) : AHeap := pad b pre ++ ((.object "MacroAssembler", objv b s L) :: (.array .char, (A 0).map Value.int) :: (.array .int, (A 1).map Value.int) :: (.array .int, (A 2).map Value.int) :: (.array .int, (A 3).map Value.int) :: (.array .long, (B 0).map Value.long) :: (.array .int, (A 4).map Value.int) :: (.array .char, (A 5).map Value.int) :: (.array .char, (A 6).map Value.int) :: (.array .long, (B 1).map Value.long) :: (.array .int, (A 7).map Value.int) :: (.array .int, (A 8).map Value.int) :: (.array .int, (A 9).map Value.int) :: (.array .boolean, (A 10).map Value.int) :: (.array .int, (A 11).map Value.int) :: (.array .int, (A 12).map Value.int) :: (.array .int, (A 13).map Value.int) :: (.array .int, (A 14).map Value.int) :: (.array .int, (A 15).map Value.int) :: (.array .int, (A 16).map Value.int) :: (.array .int, (A 17).map Value.int) :: (.array .char, (A 18).map Value.int) :: (.array .char, (A 19).map Value.int) :: (.array .int, (A 20).map Value.int) :: (.array .int, (A 21).map Value.int) :: (.array .long, (B 2).map Value.long) :: (.array .long, (B 3).map Value.long) :: (.array .int, (A 22).map Value.int) :: (.array .int, (A 23).map Value.int) :: (.array .int, (A 24).map Value.int) :: (.array .int, (A 25).map Value.int) :: (.array .int, (A 26).map Value.int) :: (.array .boolean, (A 27).map Value.int) :: (.array .long, (B 4).map Value.long) :: (.array .int, (A 28).map Value.int) :: post)
section Put
variable {b : Nat} {pre : AHeap} {s : Nat → Int32} {A : Nat → List Int32} {L : Nat → Int64} {B : Nat → List Int64} {post : AHeap}
theorem put_o  : (put b pre s A L B post)[b]? = some (.object "MacroAssembler", objv b s L) := pad_get0 _ _ _
theorem put_a0  : (put b pre s A L B post)[b + 1]? = some (.array .char, (A 0).map Value.int) := pad_get _ _ _ 1
theorem put_w0  {l : List Int32} : (put b pre s A L B post).set (b + 1) (.array .char, l.map Value.int) = put b pre s (ou A 0 l) L B post := pad_set _ _ _ 1 _
theorem put_a1  : (put b pre s A L B post)[b + 2]? = some (.array .int, (A 1).map Value.int) := pad_get _ _ _ 2
theorem put_w1  {l : List Int32} : (put b pre s A L B post).set (b + 2) (.array .int, l.map Value.int) = put b pre s (ou A 1 l) L B post := pad_set _ _ _ 2 _
theorem put_a2  : (put b pre s A L B post)[b + 3]? = some (.array .int, (A 2).map Value.int) := pad_get _ _ _ 3
theorem put_w2  {l : List Int32} : (put b pre s A L B post).set (b + 3) (.array .int, l.map Value.int) = put b pre s (ou A 2 l) L B post := pad_set _ _ _ 3 _
theorem put_a3  : (put b pre s A L B post)[b + 4]? = some (.array .int, (A 3).map Value.int) := pad_get _ _ _ 4
theorem put_w3  {l : List Int32} : (put b pre s A L B post).set (b + 4) (.array .int, l.map Value.int) = put b pre s (ou A 3 l) L B post := pad_set _ _ _ 4 _
theorem put_l0  : (put b pre s A L B post)[b + 5]? = some (.array .long, (B 0).map Value.long) := pad_get _ _ _ 5
theorem put_lw0  {l : List Int64} : (put b pre s A L B post).set (b + 5) (.array .long, l.map Value.long) = put b pre s A L (ou B 0 l) post := pad_set _ _ _ 5 _
theorem put_a4  : (put b pre s A L B post)[b + 6]? = some (.array .int, (A 4).map Value.int) := pad_get _ _ _ 6
theorem put_w4  {l : List Int32} : (put b pre s A L B post).set (b + 6) (.array .int, l.map Value.int) = put b pre s (ou A 4 l) L B post := pad_set _ _ _ 6 _
theorem put_a5  : (put b pre s A L B post)[b + 7]? = some (.array .char, (A 5).map Value.int) := pad_get _ _ _ 7
theorem put_w5  {l : List Int32} : (put b pre s A L B post).set (b + 7) (.array .char, l.map Value.int) = put b pre s (ou A 5 l) L B post := pad_set _ _ _ 7 _
theorem put_a6  : (put b pre s A L B post)[b + 8]? = some (.array .char, (A 6).map Value.int) := pad_get _ _ _ 8
theorem put_w6  {l : List Int32} : (put b pre s A L B post).set (b + 8) (.array .char, l.map Value.int) = put b pre s (ou A 6 l) L B post := pad_set _ _ _ 8 _
theorem put_l1  : (put b pre s A L B post)[b + 9]? = some (.array .long, (B 1).map Value.long) := pad_get _ _ _ 9
theorem put_lw1  {l : List Int64} : (put b pre s A L B post).set (b + 9) (.array .long, l.map Value.long) = put b pre s A L (ou B 1 l) post := pad_set _ _ _ 9 _
theorem put_a7  : (put b pre s A L B post)[b + 10]? = some (.array .int, (A 7).map Value.int) := pad_get _ _ _ 10
theorem put_w7  {l : List Int32} : (put b pre s A L B post).set (b + 10) (.array .int, l.map Value.int) = put b pre s (ou A 7 l) L B post := pad_set _ _ _ 10 _
theorem put_a8  : (put b pre s A L B post)[b + 11]? = some (.array .int, (A 8).map Value.int) := pad_get _ _ _ 11
theorem put_w8  {l : List Int32} : (put b pre s A L B post).set (b + 11) (.array .int, l.map Value.int) = put b pre s (ou A 8 l) L B post := pad_set _ _ _ 11 _
theorem put_a9  : (put b pre s A L B post)[b + 12]? = some (.array .int, (A 9).map Value.int) := pad_get _ _ _ 12
theorem put_w9  {l : List Int32} : (put b pre s A L B post).set (b + 12) (.array .int, l.map Value.int) = put b pre s (ou A 9 l) L B post := pad_set _ _ _ 12 _
theorem put_a10  : (put b pre s A L B post)[b + 13]? = some (.array .boolean, (A 10).map Value.int) := pad_get _ _ _ 13
theorem put_w10  {l : List Int32} : (put b pre s A L B post).set (b + 13) (.array .boolean, l.map Value.int) = put b pre s (ou A 10 l) L B post := pad_set _ _ _ 13 _
theorem put_a11  : (put b pre s A L B post)[b + 14]? = some (.array .int, (A 11).map Value.int) := pad_get _ _ _ 14
theorem put_w11  {l : List Int32} : (put b pre s A L B post).set (b + 14) (.array .int, l.map Value.int) = put b pre s (ou A 11 l) L B post := pad_set _ _ _ 14 _
theorem put_a12  : (put b pre s A L B post)[b + 15]? = some (.array .int, (A 12).map Value.int) := pad_get _ _ _ 15
theorem put_w12  {l : List Int32} : (put b pre s A L B post).set (b + 15) (.array .int, l.map Value.int) = put b pre s (ou A 12 l) L B post := pad_set _ _ _ 15 _
theorem put_a13  : (put b pre s A L B post)[b + 16]? = some (.array .int, (A 13).map Value.int) := pad_get _ _ _ 16
theorem put_w13  {l : List Int32} : (put b pre s A L B post).set (b + 16) (.array .int, l.map Value.int) = put b pre s (ou A 13 l) L B post := pad_set _ _ _ 16 _
theorem put_a14  : (put b pre s A L B post)[b + 17]? = some (.array .int, (A 14).map Value.int) := pad_get _ _ _ 17
theorem put_w14  {l : List Int32} : (put b pre s A L B post).set (b + 17) (.array .int, l.map Value.int) = put b pre s (ou A 14 l) L B post := pad_set _ _ _ 17 _
theorem put_a15  : (put b pre s A L B post)[b + 18]? = some (.array .int, (A 15).map Value.int) := pad_get _ _ _ 18
theorem put_w15  {l : List Int32} : (put b pre s A L B post).set (b + 18) (.array .int, l.map Value.int) = put b pre s (ou A 15 l) L B post := pad_set _ _ _ 18 _
theorem put_a16  : (put b pre s A L B post)[b + 19]? = some (.array .int, (A 16).map Value.int) := pad_get _ _ _ 19
theorem put_w16  {l : List Int32} : (put b pre s A L B post).set (b + 19) (.array .int, l.map Value.int) = put b pre s (ou A 16 l) L B post := pad_set _ _ _ 19 _
theorem put_a17  : (put b pre s A L B post)[b + 20]? = some (.array .int, (A 17).map Value.int) := pad_get _ _ _ 20
theorem put_w17  {l : List Int32} : (put b pre s A L B post).set (b + 20) (.array .int, l.map Value.int) = put b pre s (ou A 17 l) L B post := pad_set _ _ _ 20 _
theorem put_a18  : (put b pre s A L B post)[b + 21]? = some (.array .char, (A 18).map Value.int) := pad_get _ _ _ 21
theorem put_w18  {l : List Int32} : (put b pre s A L B post).set (b + 21) (.array .char, l.map Value.int) = put b pre s (ou A 18 l) L B post := pad_set _ _ _ 21 _
theorem put_a19  : (put b pre s A L B post)[b + 22]? = some (.array .char, (A 19).map Value.int) := pad_get _ _ _ 22
theorem put_w19  {l : List Int32} : (put b pre s A L B post).set (b + 22) (.array .char, l.map Value.int) = put b pre s (ou A 19 l) L B post := pad_set _ _ _ 22 _
theorem put_a20  : (put b pre s A L B post)[b + 23]? = some (.array .int, (A 20).map Value.int) := pad_get _ _ _ 23
theorem put_w20  {l : List Int32} : (put b pre s A L B post).set (b + 23) (.array .int, l.map Value.int) = put b pre s (ou A 20 l) L B post := pad_set _ _ _ 23 _
theorem put_a21  : (put b pre s A L B post)[b + 24]? = some (.array .int, (A 21).map Value.int) := pad_get _ _ _ 24
theorem put_w21  {l : List Int32} : (put b pre s A L B post).set (b + 24) (.array .int, l.map Value.int) = put b pre s (ou A 21 l) L B post := pad_set _ _ _ 24 _
theorem put_l2  : (put b pre s A L B post)[b + 25]? = some (.array .long, (B 2).map Value.long) := pad_get _ _ _ 25
theorem put_lw2  {l : List Int64} : (put b pre s A L B post).set (b + 25) (.array .long, l.map Value.long) = put b pre s A L (ou B 2 l) post := pad_set _ _ _ 25 _
theorem put_l3  : (put b pre s A L B post)[b + 26]? = some (.array .long, (B 3).map Value.long) := pad_get _ _ _ 26
theorem put_lw3  {l : List Int64} : (put b pre s A L B post).set (b + 26) (.array .long, l.map Value.long) = put b pre s A L (ou B 3 l) post := pad_set _ _ _ 26 _
theorem put_a22  : (put b pre s A L B post)[b + 27]? = some (.array .int, (A 22).map Value.int) := pad_get _ _ _ 27
theorem put_w22  {l : List Int32} : (put b pre s A L B post).set (b + 27) (.array .int, l.map Value.int) = put b pre s (ou A 22 l) L B post := pad_set _ _ _ 27 _
theorem put_a23  : (put b pre s A L B post)[b + 28]? = some (.array .int, (A 23).map Value.int) := pad_get _ _ _ 28
theorem put_w23  {l : List Int32} : (put b pre s A L B post).set (b + 28) (.array .int, l.map Value.int) = put b pre s (ou A 23 l) L B post := pad_set _ _ _ 28 _
theorem put_a24  : (put b pre s A L B post)[b + 29]? = some (.array .int, (A 24).map Value.int) := pad_get _ _ _ 29
theorem put_w24  {l : List Int32} : (put b pre s A L B post).set (b + 29) (.array .int, l.map Value.int) = put b pre s (ou A 24 l) L B post := pad_set _ _ _ 29 _
theorem put_a25  : (put b pre s A L B post)[b + 30]? = some (.array .int, (A 25).map Value.int) := pad_get _ _ _ 30
theorem put_w25  {l : List Int32} : (put b pre s A L B post).set (b + 30) (.array .int, l.map Value.int) = put b pre s (ou A 25 l) L B post := pad_set _ _ _ 30 _
theorem put_a26  : (put b pre s A L B post)[b + 31]? = some (.array .int, (A 26).map Value.int) := pad_get _ _ _ 31
theorem put_w26  {l : List Int32} : (put b pre s A L B post).set (b + 31) (.array .int, l.map Value.int) = put b pre s (ou A 26 l) L B post := pad_set _ _ _ 31 _
theorem put_a27  : (put b pre s A L B post)[b + 32]? = some (.array .boolean, (A 27).map Value.int) := pad_get _ _ _ 32
theorem put_w27  {l : List Int32} : (put b pre s A L B post).set (b + 32) (.array .boolean, l.map Value.int) = put b pre s (ou A 27 l) L B post := pad_set _ _ _ 32 _
theorem put_l4  : (put b pre s A L B post)[b + 33]? = some (.array .long, (B 4).map Value.long) := pad_get _ _ _ 33
theorem put_lw4  {l : List Int64} : (put b pre s A L B post).set (b + 33) (.array .long, l.map Value.long) = put b pre s A L (ou B 4 l) post := pad_set _ _ _ 33 _
theorem put_a28  : (put b pre s A L B post)[b + 34]? = some (.array .int, (A 28).map Value.int) := pad_get _ _ _ 34
theorem put_w28  {l : List Int32} : (put b pre s A L B post).set (b + 34) (.array .int, l.map Value.int) = put b pre s (ou A 28 l) L B post := pad_set _ _ _ 34 _
theorem put_s0  {v : Int32} : (put b pre s A L B post).set b (.object "MacroAssembler", (objv b s L).set 0 (.int v)) = put b pre (ou s 0 v) A L B post := pad_set0 _ _ _ _
theorem put_s1  {v : Int32} : (put b pre s A L B post).set b (.object "MacroAssembler", (objv b s L).set 1 (.int v)) = put b pre (ou s 1 v) A L B post := pad_set0 _ _ _ _
theorem put_s2  {v : Int32} : (put b pre s A L B post).set b (.object "MacroAssembler", (objv b s L).set 2 (.int v)) = put b pre (ou s 2 v) A L B post := pad_set0 _ _ _ _
theorem put_s3  {v : Int32} : (put b pre s A L B post).set b (.object "MacroAssembler", (objv b s L).set 3 (.int v)) = put b pre (ou s 3 v) A L B post := pad_set0 _ _ _ _
theorem put_s4  {v : Int32} : (put b pre s A L B post).set b (.object "MacroAssembler", (objv b s L).set 4 (.int v)) = put b pre (ou s 4 v) A L B post := pad_set0 _ _ _ _
theorem put_s5  {v : Int32} : (put b pre s A L B post).set b (.object "MacroAssembler", (objv b s L).set 5 (.int v)) = put b pre (ou s 5 v) A L B post := pad_set0 _ _ _ _
theorem put_s6  {v : Int32} : (put b pre s A L B post).set b (.object "MacroAssembler", (objv b s L).set 6 (.int v)) = put b pre (ou s 6 v) A L B post := pad_set0 _ _ _ _
theorem put_s7  {v : Int32} : (put b pre s A L B post).set b (.object "MacroAssembler", (objv b s L).set 7 (.int v)) = put b pre (ou s 7 v) A L B post := pad_set0 _ _ _ _
theorem put_s8  {v : Int32} : (put b pre s A L B post).set b (.object "MacroAssembler", (objv b s L).set 8 (.int v)) = put b pre (ou s 8 v) A L B post := pad_set0 _ _ _ _
theorem put_s9  {v : Int32} : (put b pre s A L B post).set b (.object "MacroAssembler", (objv b s L).set 9 (.int v)) = put b pre (ou s 9 v) A L B post := pad_set0 _ _ _ _
theorem put_s10  {v : Int32} : (put b pre s A L B post).set b (.object "MacroAssembler", (objv b s L).set 10 (.int v)) = put b pre (ou s 10 v) A L B post := pad_set0 _ _ _ _
theorem put_s11  {v : Int32} : (put b pre s A L B post).set b (.object "MacroAssembler", (objv b s L).set 11 (.int v)) = put b pre (ou s 11 v) A L B post := pad_set0 _ _ _ _
theorem put_s12  {v : Int32} : (put b pre s A L B post).set b (.object "MacroAssembler", (objv b s L).set 12 (.int v)) = put b pre (ou s 12 v) A L B post := pad_set0 _ _ _ _
theorem put_s13  {v : Int32} : (put b pre s A L B post).set b (.object "MacroAssembler", (objv b s L).set 13 (.int v)) = put b pre (ou s 13 v) A L B post := pad_set0 _ _ _ _
theorem put_s14  {v : Int32} : (put b pre s A L B post).set b (.object "MacroAssembler", (objv b s L).set 14 (.int v)) = put b pre (ou s 14 v) A L B post := pad_set0 _ _ _ _
theorem put_s15  {v : Int32} : (put b pre s A L B post).set b (.object "MacroAssembler", (objv b s L).set 15 (.int v)) = put b pre (ou s 15 v) A L B post := pad_set0 _ _ _ _
theorem put_s16  {v : Int32} : (put b pre s A L B post).set b (.object "MacroAssembler", (objv b s L).set 16 (.int v)) = put b pre (ou s 16 v) A L B post := pad_set0 _ _ _ _
theorem put_s17  {v : Int32} : (put b pre s A L B post).set b (.object "MacroAssembler", (objv b s L).set 17 (.int v)) = put b pre (ou s 17 v) A L B post := pad_set0 _ _ _ _
theorem put_s18  {v : Int32} : (put b pre s A L B post).set b (.object "MacroAssembler", (objv b s L).set 18 (.int v)) = put b pre (ou s 18 v) A L B post := pad_set0 _ _ _ _
theorem put_s19  {v : Int32} : (put b pre s A L B post).set b (.object "MacroAssembler", (objv b s L).set 19 (.int v)) = put b pre (ou s 19 v) A L B post := pad_set0 _ _ _ _
theorem put_s20  {v : Int32} : (put b pre s A L B post).set b (.object "MacroAssembler", (objv b s L).set 20 (.int v)) = put b pre (ou s 20 v) A L B post := pad_set0 _ _ _ _
theorem put_s21  {v : Int32} : (put b pre s A L B post).set b (.object "MacroAssembler", (objv b s L).set 55 (.int v)) = put b pre (ou s 21 v) A L B post := pad_set0 _ _ _ _
theorem put_s22  {v : Int32} : (put b pre s A L B post).set b (.object "MacroAssembler", (objv b s L).set 56 (.int v)) = put b pre (ou s 22 v) A L B post := pad_set0 _ _ _ _
theorem put_s24  {v : Int32} : (put b pre s A L B post).set b (.object "MacroAssembler", (objv b s L).set 57 (.int v)) = put b pre (ou s 24 v) A L B post := pad_set0 _ _ _ _
theorem put_s26  {v : Int32} : (put b pre s A L B post).set b (.object "MacroAssembler", (objv b s L).set 58 (.int v)) = put b pre (ou s 26 v) A L B post := pad_set0 _ _ _ _
theorem put_s28  {v : Int32} : (put b pre s A L B post).set b (.object "MacroAssembler", (objv b s L).set 59 (.int v)) = put b pre (ou s 28 v) A L B post := pad_set0 _ _ _ _
theorem put_s27  {v : Int32} : (put b pre s A L B post).set b (.object "MacroAssembler", (objv b s L).set 60 (.int v)) = put b pre (ou s 27 v) A L B post := pad_set0 _ _ _ _
theorem put_s25  {v : Int32} : (put b pre s A L B post).set b (.object "MacroAssembler", (objv b s L).set 61 (.int v)) = put b pre (ou s 25 v) A L B post := pad_set0 _ _ _ _
theorem put_s29  {v : Int32} : (put b pre s A L B post).set b (.object "MacroAssembler", (objv b s L).set 62 (.int v)) = put b pre (ou s 29 v) A L B post := pad_set0 _ _ _ _
theorem put_s31  {v : Int32} : (put b pre s A L B post).set b (.object "MacroAssembler", (objv b s L).set 63 (.int v)) = put b pre (ou s 31 v) A L B post := pad_set0 _ _ _ _
theorem put_s33  {v : Int32} : (put b pre s A L B post).set b (.object "MacroAssembler", (objv b s L).set 64 (.int v)) = put b pre (ou s 33 v) A L B post := pad_set0 _ _ _ _
theorem put_s41  {v : Int32} : (put b pre s A L B post).set b (.object "MacroAssembler", (objv b s L).set 65 (.int v)) = put b pre (ou s 41 v) A L B post := pad_set0 _ _ _ _
theorem put_s42  {v : Int32} : (put b pre s A L B post).set b (.object "MacroAssembler", (objv b s L).set 66 (.int v)) = put b pre (ou s 42 v) A L B post := pad_set0 _ _ _ _
theorem put_s40  {v : Int32} : (put b pre s A L B post).set b (.object "MacroAssembler", (objv b s L).set 67 (.int v)) = put b pre (ou s 40 v) A L B post := pad_set0 _ _ _ _
theorem put_s54  {v : Int32} : (put b pre s A L B post).set b (.object "MacroAssembler", (objv b s L).set 68 (.int v)) = put b pre (ou s 54 v) A L B post := pad_set0 _ _ _ _
theorem put_s37  {v : Int32} : (put b pre s A L B post).set b (.object "MacroAssembler", (objv b s L).set 69 (.int v)) = put b pre (ou s 37 v) A L B post := pad_set0 _ _ _ _
theorem put_s38  {v : Int32} : (put b pre s A L B post).set b (.object "MacroAssembler", (objv b s L).set 70 (.int v)) = put b pre (ou s 38 v) A L B post := pad_set0 _ _ _ _
theorem put_s39  {v : Int32} : (put b pre s A L B post).set b (.object "MacroAssembler", (objv b s L).set 71 (.int v)) = put b pre (ou s 39 v) A L B post := pad_set0 _ _ _ _
theorem put_s32  {v : Int32} : (put b pre s A L B post).set b (.object "MacroAssembler", (objv b s L).set 72 (.int v)) = put b pre (ou s 32 v) A L B post := pad_set0 _ _ _ _
theorem put_s44  {v : Int32} : (put b pre s A L B post).set b (.object "MacroAssembler", (objv b s L).set 73 (.int v)) = put b pre (ou s 44 v) A L B post := pad_set0 _ _ _ _
theorem put_s45  {v : Int32} : (put b pre s A L B post).set b (.object "MacroAssembler", (objv b s L).set 74 (.int v)) = put b pre (ou s 45 v) A L B post := pad_set0 _ _ _ _
theorem put_s43  {v : Int32} : (put b pre s A L B post).set b (.object "MacroAssembler", (objv b s L).set 75 (.int v)) = put b pre (ou s 43 v) A L B post := pad_set0 _ _ _ _
theorem put_s23  {v : Int32} : (put b pre s A L B post).set b (.object "MacroAssembler", (objv b s L).set 76 (.int v)) = put b pre (ou s 23 v) A L B post := pad_set0 _ _ _ _
theorem put_s34  {v : Int32} : (put b pre s A L B post).set b (.object "MacroAssembler", (objv b s L).set 77 (.int v)) = put b pre (ou s 34 v) A L B post := pad_set0 _ _ _ _
theorem put_s35  {v : Int32} : (put b pre s A L B post).set b (.object "MacroAssembler", (objv b s L).set 78 (.int v)) = put b pre (ou s 35 v) A L B post := pad_set0 _ _ _ _
theorem put_s36  {v : Int32} : (put b pre s A L B post).set b (.object "MacroAssembler", (objv b s L).set 79 (.int v)) = put b pre (ou s 36 v) A L B post := pad_set0 _ _ _ _
theorem put_s46  {v : Int32} : (put b pre s A L B post).set b (.object "MacroAssembler", (objv b s L).set 80 (.int v)) = put b pre (ou s 46 v) A L B post := pad_set0 _ _ _ _
theorem put_s47  {v : Int32} : (put b pre s A L B post).set b (.object "MacroAssembler", (objv b s L).set 81 (.int v)) = put b pre (ou s 47 v) A L B post := pad_set0 _ _ _ _
theorem put_s48  {v : Int32} : (put b pre s A L B post).set b (.object "MacroAssembler", (objv b s L).set 82 (.int v)) = put b pre (ou s 48 v) A L B post := pad_set0 _ _ _ _
theorem put_s49  {v : Int32} : (put b pre s A L B post).set b (.object "MacroAssembler", (objv b s L).set 83 (.int v)) = put b pre (ou s 49 v) A L B post := pad_set0 _ _ _ _
theorem put_s30  {v : Int32} : (put b pre s A L B post).set b (.object "MacroAssembler", (objv b s L).set 84 (.int v)) = put b pre (ou s 30 v) A L B post := pad_set0 _ _ _ _
theorem put_j0  {v : Int64} : (put b pre s A L B post).set b (.object "MacroAssembler", (objv b s L).set 85 (.long v)) = put b pre s A (ou L 0 v) B post := pad_set0 _ _ _ _
theorem put_s50  {v : Int32} : (put b pre s A L B post).set b (.object "MacroAssembler", (objv b s L).set 86 (.int v)) = put b pre (ou s 50 v) A L B post := pad_set0 _ _ _ _
theorem put_s51  {v : Int32} : (put b pre s A L B post).set b (.object "MacroAssembler", (objv b s L).set 87 (.int v)) = put b pre (ou s 51 v) A L B post := pad_set0 _ _ _ _
theorem put_s52  {v : Int32} : (put b pre s A L B post).set b (.object "MacroAssembler", (objv b s L).set 88 (.int v)) = put b pre (ou s 52 v) A L B post := pad_set0 _ _ _ _
theorem put_s53  {v : Int32} : (put b pre s A L B post).set b (.object "MacroAssembler", (objv b s L).set 89 (.int v)) = put b pre (ou s 53 v) A L B post := pad_set0 _ _ _ _
theorem put_len  : (put b pre s A L B post).length = b + 35 + post.length := by rw [put, List.length_append, pad_len]; simp only [List.length_cons]; omega
theorem inst0 : rInst tables_1 "MacroAssembler" = some 90 := by decide +kernel
theorem put_tot  : tot tables_1 (put b pre s A L B post) = tot tables_1 (pad b pre) + (90 + ((A 0).length + ((A 1).length + ((A 2).length + ((A 3).length + ((B 0).length + ((A 4).length + ((A 5).length + ((A 6).length + ((B 1).length + ((A 7).length + ((A 8).length + ((A 9).length + ((A 10).length + ((A 11).length + ((A 12).length + ((A 13).length + ((A 14).length + ((A 15).length + ((A 16).length + ((A 17).length + ((A 18).length + ((A 19).length + ((A 20).length + ((A 21).length + ((B 2).length + ((B 3).length + ((A 22).length + ((A 23).length + ((A 24).length + ((A 25).length + ((A 26).length + ((A 27).length + ((B 4).length + ((A 28).length + tot tables_1 post))))))))))))))))))))))))))))))))))) := by rw [put, tot_append]; simp only [tot_cons, cost, List.length_map, inst0, Option.getD_some]
end Put
def D0 : List Value := [.int 0, .int 0, .int 0, .int 0, .int 0, .int 0, .int 0, .int 0, .int 0, .int 0, .int 0, .int 0, .int 0, .int 0, .int 0, .int 0, .int 0, .int 0, .int 0, .int 0, .int 0, .null, .null, .null, .null, .null, .null, .null, .null, .null, .null, .null, .null, .null, .null, .null, .null, .null, .null, .null, .null, .null, .null, .null, .null, .null, .null, .null, .null, .null, .null, .null, .null, .null, .null, .int 0, .int 0, .int 0, .int 0, .int 0, .int 0, .int 0, .int 0, .int 0, .int 0, .int 0, .int 0, .int 0, .int 0, .int 0, .int 0, .int 0, .int 0, .int 0, .int 0, .int 0, .int 0, .int 0, .int 0, .int 0, .int 0, .int 0, .int 0, .int 0, .int 0, .long 0, .int 0, .int 0, .int 0, .int 0]
theorem lay0 : (olay tables_1 "MacroAssembler").map dflt = D0 := by decide +kernel
abbrev y0 : MethodName := ⟨"MacroAssembler", "<init>", "(I)V"⟩
abbrev kb0 : ByteArray := prog_1_method_1_code
def M0 := W tables_1 dn 0 y0 prog_1_method_1_code none
abbrev y1 : MethodName := ⟨"MacroAssembler", "feedLong", "(J)I"⟩
abbrev kb1 : ByteArray := prog_1_method_3_code
def M1 := W tables_1 dn 0 y1 prog_1_method_3_code (some .int)
abbrev y2 : MethodName := ⟨"MacroAssembler", "byteOf", "(JI)I"⟩
abbrev kb2 : ByteArray := prog_1_method_19_code
def M2 := W tables_1 dn 0 y2 prog_1_method_19_code (some .int)
abbrev y3 : MethodName := ⟨"MacroAssembler", "validChar", "(I)Z"⟩
abbrev kb3 : ByteArray := prog_1_method_18_code
def M3 := W tables_1 dn 0 y3 prog_1_method_18_code (some .boolean)
abbrev y4 : MethodName := ⟨"MacroAssembler", "resetResult", "()V"⟩
abbrev kb4 : ByteArray := prog_1_method_20_code
def M4 := W tables_1 dn 0 y4 prog_1_method_20_code none
abbrev y5 : MethodName := ⟨"MacroAssembler", "assemble", "()I"⟩
abbrev kb5 : ByteArray := prog_1_method_5_code
def M5 := W tables_1 dn 0 y5 prog_1_method_5_code (some .int)
abbrev y6 : MethodName := ⟨"MacroAssembler", "startRun", "()V"⟩
abbrev kb6 : ByteArray := prog_1_method_38_code
def M6 := W tables_1 dn 0 y6 prog_1_method_38_code none
abbrev y7 : MethodName := ⟨"MacroAssembler", "splitLines", "()V"⟩
abbrev kb7 : ByteArray := prog_1_method_39_code
def M7 := W tables_1 dn 0 y7 prog_1_method_39_code none
abbrev y8 : MethodName := ⟨"MacroAssembler", "setInput", "(II)V"⟩
abbrev kb8 : ByteArray := prog_1_method_40_code
def M8 := W tables_1 dn 0 y8 prog_1_method_40_code none
abbrev y9 : MethodName := ⟨"MacroAssembler", "step", "()V"⟩
abbrev kb9 : ByteArray := prog_1_method_41_code
def M9 := W tables_1 dn 0 y9 prog_1_method_41_code none
abbrev y10 : MethodName := ⟨"MacroAssembler", "copyLine", "(I)V"⟩
abbrev kb10 : ByteArray := prog_1_method_45_code
def M10 := W tables_1 dn 0 y10 prog_1_method_45_code none
abbrev y11 : MethodName := ⟨"MacroAssembler", "normalLine", "()V"⟩
abbrev kb11 : ByteArray := prog_1_method_53_code
def M11 := W tables_1 dn 0 y11 prog_1_method_53_code none
abbrev y12 : MethodName := ⟨"MacroAssembler", "findLabel", "()V"⟩
abbrev kb12 : ByteArray := prog_1_method_54_code
def M12 := W tables_1 dn 0 y12 prog_1_method_54_code none
abbrev y13 : MethodName := ⟨"MacroAssembler", "skipSpaces", "(I)I"⟩
abbrev kb13 : ByteArray := prog_1_method_25_code
def M13 := W tables_1 dn 0 y13 prog_1_method_25_code (some .int)
abbrev y14 : MethodName := ⟨"MacroAssembler", "identStart", "(I)Z"⟩
abbrev kb14 : ByteArray := prog_1_method_23_code
def M14 := W tables_1 dn 0 y14 prog_1_method_23_code (some .boolean)
abbrev y15 : MethodName := ⟨"MacroAssembler", "identEnd", "(I)I"⟩
abbrev kb15 : ByteArray := prog_1_method_26_code
def M15 := W tables_1 dn 0 y15 prog_1_method_26_code (some .int)
abbrev y16 : MethodName := ⟨"MacroAssembler", "identChar", "(I)Z"⟩
abbrev kb16 : ByteArray := prog_1_method_24_code
def M16 := W tables_1 dn 0 y16 prog_1_method_24_code (some .boolean)
abbrev y17 : MethodName := ⟨"MacroAssembler", "isDigit", "(I)Z"⟩
abbrev kb17 : ByteArray := prog_1_method_22_code
def M17 := W tables_1 dn 0 y17 prog_1_method_22_code (some .boolean)
abbrev y18 : MethodName := ⟨"MacroAssembler", "pack", "(II)J"⟩
abbrev kb18 : ByteArray := prog_1_method_27_code
def M18 := W tables_1 dn 0 y18 prog_1_method_27_code (some .long)
abbrev y19 : MethodName := ⟨"MacroAssembler", "wordAt", "(I)J"⟩
abbrev kb19 : ByteArray := prog_1_method_28_code
def M19 := W tables_1 dn 0 y19 prog_1_method_28_code (some .long)
abbrev y20 : MethodName := ⟨"MacroAssembler", "kwCode", "(I)J"⟩
abbrev kb20 : ByteArray := prog_1_method_33_code
def M20 := W tables_1 dn 0 y20 prog_1_method_33_code (some .long)
abbrev y21 : MethodName := ⟨"MacroAssembler", "word", "(IIIII)J"⟩
abbrev kb21 : ByteArray := prog_1_method_32_code
def M21 := W tables_1 dn 0 y21 prog_1_method_32_code (some .long)
abbrev y22 : MethodName := ⟨"MacroAssembler", "formMacro", "()V"⟩
abbrev kb22 : ByteArray := prog_1_method_60_code
def M22 := W tables_1 dn 0 y22 prog_1_method_60_code none
abbrev y23 : MethodName := ⟨"MacroAssembler", "tokenize", "(I)V"⟩
abbrev kb23 : ByteArray := prog_1_method_75_code
def M23 := W tables_1 dn 0 y23 prog_1_method_75_code none
abbrev y24 : MethodName := ⟨"MacroAssembler", "addTok", "(IIJ)V"⟩
abbrev kb24 : ByteArray := prog_1_method_77_code
def M24 := W tables_1 dn 0 y24 prog_1_method_77_code none
abbrev y25 : MethodName := ⟨"MacroAssembler", "kwIndex", "(J)I"⟩
abbrev kb25 : ByteArray := prog_1_method_34_code
def M25 := W tables_1 dn 0 y25 prog_1_method_34_code (some .int)
abbrev y26 : MethodName := ⟨"MacroAssembler", "macroFind", "(J)I"⟩
abbrev kb26 : ByteArray := prog_1_method_36_code
def M26 := W tables_1 dn 0 y26 prog_1_method_36_code (some .int)
abbrev y27 : MethodName := ⟨"MacroAssembler", "defLine", "(I)V"⟩
abbrev kb27 : ByteArray := prog_1_method_50_code
def M27 := W tables_1 dn 0 y27 prog_1_method_50_code none
abbrev y28 : MethodName := ⟨"MacroAssembler", "firstWord", "(I)J"⟩
abbrev kb28 : ByteArray := prog_1_method_29_code
def M28 := W tables_1 dn 0 y28 prog_1_method_29_code (some .long)
abbrev y29 : MethodName := ⟨"MacroAssembler", "callMacro", "(II)V"⟩
abbrev kb29 : ByteArray := prog_1_method_71_code
def M29 := W tables_1 dn 0 y29 prog_1_method_71_code none
abbrev y30 : MethodName := ⟨"MacroAssembler", "defineLabel", "()V"⟩
abbrev kb30 : ByteArray := prog_1_method_55_code
def M30 := W tables_1 dn 0 y30 prog_1_method_55_code none
abbrev y31 : MethodName := ⟨"MacroAssembler", "countArgs", "(II)I"⟩
abbrev kb31 : ByteArray := prog_1_method_72_code
def M31 := W tables_1 dn 0 y31 prog_1_method_72_code (some .int)
abbrev y32 : MethodName := ⟨"MacroAssembler", "push", "(I)Z"⟩
abbrev kb32 : ByteArray := prog_1_method_65_code
def M32 := W tables_1 dn 0 y32 prog_1_method_65_code (some .boolean)
abbrev y33 : MethodName := ⟨"MacroAssembler", "splitArgs", "(III)V"⟩
abbrev kb33 : ByteArray := prog_1_method_73_code
def M33 := W tables_1 dn 0 y33 prog_1_method_73_code none
abbrev y34 : MethodName := ⟨"MacroAssembler", "storeArg", "(III)V"⟩
abbrev kb34 : ByteArray := prog_1_method_74_code
def M34 := W tables_1 dn 0 y34 prog_1_method_74_code none
abbrev y35 : MethodName := ⟨"MacroAssembler", "outerLine", "()I"⟩
abbrev kb35 : ByteArray := prog_1_method_43_code
def M35 := W tables_1 dn 0 y35 prog_1_method_43_code (some .int)
abbrev y36 : MethodName := ⟨"MacroAssembler", "substitute", "(I)V"⟩
abbrev kb36 : ByteArray := prog_1_method_46_code
def M36 := W tables_1 dn 0 y36 prog_1_method_46_code none
abbrev y37 : MethodName := ⟨"MacroAssembler", "topCall", "()I"⟩
abbrev kb37 : ByteArray := prog_1_method_44_code
def M37 := W tables_1 dn 0 y37 prog_1_method_44_code (some .int)
abbrev y38 : MethodName := ⟨"MacroAssembler", "putLocal", "(III)I"⟩
abbrev kb38 : ByteArray := prog_1_method_49_code
def M38 := W tables_1 dn 0 y38 prog_1_method_49_code (some .int)
abbrev y39 : MethodName := ⟨"MacroAssembler", "put", "(I)V"⟩
abbrev kb39 : ByteArray := prog_1_method_47_code
def M39 := W tables_1 dn 0 y39 prog_1_method_47_code none
abbrev y40 : MethodName := ⟨"MacroAssembler", "toDigits", "(I)V"⟩
abbrev kb40 : ByteArray := prog_1_method_37_code
def M40 := W tables_1 dn 0 y40 prog_1_method_37_code none
abbrev y41 : MethodName := ⟨"MacroAssembler", "putArg", "(II)V"⟩
abbrev kb41 : ByteArray := prog_1_method_48_code
def M41 := W tables_1 dn 0 y41 prog_1_method_48_code none
abbrev y42 : MethodName := ⟨"MacroAssembler", "statement", "(I)V"⟩
abbrev kb42 : ByteArray := prog_1_method_58_code
def M42 := W tables_1 dn 0 y42 prog_1_method_58_code none
abbrev y43 : MethodName := ⟨"MacroAssembler", "lexNumber", "(I)I"⟩
abbrev kb43 : ByteArray := prog_1_method_76_code
def M43 := W tables_1 dn 0 y43 prog_1_method_76_code (some .int)
abbrev y44 : MethodName := ⟨"MacroAssembler", "formOperand", "(I)V"⟩
abbrev kb44 : ByteArray := prog_1_method_62_code
def M44 := W tables_1 dn 0 y44 prog_1_method_62_code none
abbrev y45 : MethodName := ⟨"MacroAssembler", "define", "(JI)V"⟩
abbrev kb45 : ByteArray := prog_1_method_56_code
def M45 := W tables_1 dn 0 y45 prog_1_method_56_code none
abbrev y46 : MethodName := ⟨"MacroAssembler", "symFind", "(J)I"⟩
abbrev kb46 : ByteArray := prog_1_method_35_code
def M46 := W tables_1 dn 0 y46 prog_1_method_35_code (some .int)
abbrev y47 : MethodName := ⟨"MacroAssembler", "parseExpr", "(I)I"⟩
abbrev kb47 : ByteArray := prog_1_method_78_code
def M47 := W tables_1 dn 0 y47 prog_1_method_78_code (some .int)
abbrev y48 : MethodName := ⟨"MacroAssembler", "emit", "(I)V"⟩
abbrev kb48 : ByteArray := prog_1_method_57_code
def M48 := W tables_1 dn 0 y48 prog_1_method_57_code none
abbrev y49 : MethodName := ⟨"MacroAssembler", "exhausted", "()V"⟩
abbrev kb49 : ByteArray := prog_1_method_42_code
def M49 := W tables_1 dn 0 y49 prog_1_method_42_code none
abbrev y50 : MethodName := ⟨"MacroAssembler", "addIdent", "(JI)V"⟩
abbrev kb50 : ByteArray := prog_1_method_79_code
def M50 := W tables_1 dn 0 y50 prog_1_method_79_code none
abbrev y51 : MethodName := ⟨"MacroAssembler", "addFixup", "(I)V"⟩
abbrev kb51 : ByteArray := prog_1_method_81_code
def M51 := W tables_1 dn 0 y51 prog_1_method_81_code none
abbrev y52 : MethodName := ⟨"MacroAssembler", "formSimple", "(I)V"⟩
abbrev kb52 : ByteArray := prog_1_method_61_code
def M52 := W tables_1 dn 0 y52 prog_1_method_61_code none
abbrev y53 : MethodName := ⟨"MacroAssembler", "finish", "()V"⟩
abbrev kb53 : ByteArray := prog_1_method_82_code
def M53 := W tables_1 dn 0 y53 prog_1_method_82_code none
abbrev y54 : MethodName := ⟨"MacroAssembler", "buildListing", "()V"⟩
abbrev kb54 : ByteArray := prog_1_method_87_code
def M54 := W tables_1 dn 0 y54 prog_1_method_87_code none
abbrev y55 : MethodName := ⟨"MacroAssembler", "putName", "(J)V"⟩
abbrev kb55 : ByteArray := prog_1_method_84_code
def M55 := W tables_1 dn 0 y55 prog_1_method_84_code none
abbrev y56 : MethodName := ⟨"MacroAssembler", "nameLen", "(J)I"⟩
abbrev kb56 : ByteArray := prog_1_method_30_code
def M56 := W tables_1 dn 0 y56 prog_1_method_30_code (some .int)
abbrev y57 : MethodName := ⟨"MacroAssembler", "nameChar", "(JII)I"⟩
abbrev kb57 : ByteArray := prog_1_method_31_code
def M57 := W tables_1 dn 0 y57 prog_1_method_31_code (some .int)
abbrev y58 : MethodName := ⟨"MacroAssembler", "lstPut", "(I)V"⟩
abbrev kb58 : ByteArray := prog_1_method_83_code
def M58 := W tables_1 dn 0 y58 prog_1_method_83_code none
abbrev y59 : MethodName := ⟨"MacroAssembler", "putKw", "(I)V"⟩
abbrev kb59 : ByteArray := prog_1_method_85_code
def M59 := W tables_1 dn 0 y59 prog_1_method_85_code none
abbrev y60 : MethodName := ⟨"MacroAssembler", "putNum", "(I)V"⟩
abbrev kb60 : ByteArray := prog_1_method_86_code
def M60 := W tables_1 dn 0 y60 prog_1_method_86_code none
abbrev y61 : MethodName := ⟨"MacroAssembler", "listOne", "(I)I"⟩
abbrev kb61 : ByteArray := prog_1_method_88_code
def M61 := W tables_1 dn 0 y61 prog_1_method_88_code (some .int)
abbrev y62 : MethodName := ⟨"MacroAssembler", "imageByte", "(I)I"⟩
abbrev kb62 : ByteArray := prog_1_method_10_code
def M62 := W tables_1 dn 0 y62 prog_1_method_10_code (some .int)
abbrev y63 : MethodName := ⟨"MacroAssembler", "imageLength", "()I"⟩
abbrev kb63 : ByteArray := prog_1_method_9_code
def M63 := W tables_1 dn 0 y63 prog_1_method_9_code (some .int)
abbrev y64 : MethodName := ⟨"MacroAssembler", "symbolCount", "()I"⟩
abbrev kb64 : ByteArray := prog_1_method_11_code
def M64 := W tables_1 dn 0 y64 prog_1_method_11_code (some .int)
abbrev y65 : MethodName := ⟨"MacroAssembler", "symbolValue", "(I)I"⟩
abbrev kb65 : ByteArray := prog_1_method_12_code
def M65 := W tables_1 dn 0 y65 prog_1_method_12_code (some .int)
abbrev y66 : MethodName := ⟨"MacroAssembler", "symbolNameChar", "(II)I"⟩
abbrev kb66 : ByteArray := prog_1_method_13_code
def M66 := W tables_1 dn 0 y66 prog_1_method_13_code (some .int)
abbrev y67 : MethodName := ⟨"MacroAssembler", "expansionCount", "()I"⟩
abbrev kb67 : ByteArray := prog_1_method_14_code
def M67 := W tables_1 dn 0 y67 prog_1_method_14_code (some .int)
abbrev y68 : MethodName := ⟨"MacroAssembler", "errorLine", "()I"⟩
abbrev kb68 : ByteArray := prog_1_method_7_code
def M68 := W tables_1 dn 0 y68 prog_1_method_7_code (some .int)
abbrev y69 : MethodName := ⟨"MacroAssemblerL3", "callLine", "(I)J"⟩
abbrev kb69 : ByteArray := method_3_code
def M69 := W tables_1 dn 0 y69 method_3_code (some .long)
abbrev y70 : MethodName := ⟨"MacroAssemblerL3", "op", "(LMacroAssembler;II)I"⟩
abbrev kb70 : ByteArray := method_2_code
def M70 := W tables_1 dn 0 y70 method_2_code (some .int)
abbrev y71 : MethodName := ⟨"MacroAssemblerL3", "law", "(III)Z"⟩
abbrev kb71 : ByteArray := code
def M71 := W tables_1 dn 0 y71 code (some .boolean)
theorem dn_0 : dnOf dn y0 = some (1, 12) := by decide +kernel
theorem rc_0 : rCode tables_1 y0 = some (prog_1_method_1_code, 3, none) := rCode_of (i := 5) rfl (by decide +kernel)
theorem dn_1 : dnOf dn y1 = some (1, 17) := by decide +kernel
theorem rc_1 : rCode tables_1 y1 = some (prog_1_method_3_code, 6, some .int) := rCode_of (i := 130) rfl (by decide +kernel)
theorem dn_2 : dnOf dn y2 = some (0, 0) := by decide +kernel
theorem rc_2 : rCode tables_1 y2 = some (prog_1_method_19_code, 4, some .int) := rCode_of (i := 134) rfl (by decide +kernel)
theorem dn_3 : dnOf dn y3 = some (0, 0) := by decide +kernel
theorem rc_3 : rCode tables_1 y3 = some (prog_1_method_18_code, 2, some .boolean) := rCode_of (i := 139) rfl (by decide +kernel)
theorem dn_4 : dnOf dn y4 = some (0, 0) := by decide +kernel
theorem rc_4 : rCode tables_1 y4 = some (prog_1_method_20_code, 1, none) := rCode_of (i := 145) rfl (by decide +kernel)
theorem dn_5 : dnOf dn y5 = some (9, 137) := by decide +kernel
theorem rc_5 : rCode tables_1 y5 = some (prog_1_method_5_code, 2, some .int) := rCode_of (i := 174) rfl (by decide +kernel)
theorem dn_6 : dnOf dn y6 = some (1, 14) := by decide +kernel
theorem rc_6 : rCode tables_1 y6 = some (prog_1_method_38_code, 1, none) := rCode_of (i := 178) rfl (by decide +kernel)
theorem dn_7 : dnOf dn y7 = some (0, 0) := by decide +kernel
theorem rc_7 : rCode tables_1 y7 = some (prog_1_method_39_code, 3, none) := rCode_of (i := 208) rfl (by decide +kernel)
theorem dn_8 : dnOf dn y8 = some (0, 0) := by decide +kernel
theorem rc_8 : rCode tables_1 y8 = some (prog_1_method_40_code, 3, none) := rCode_of (i := 214) rfl (by decide +kernel)
theorem dn_9 : dnOf dn y9 = some (8, 124) := by decide +kernel
theorem rc_9 : rCode tables_1 y9 = some (prog_1_method_41_code, 2, none) := rCode_of (i := 224) rfl (by decide +kernel)
theorem dn_10 : dnOf dn y10 = some (0, 0) := by decide +kernel
theorem rc_10 : rCode tables_1 y10 = some (prog_1_method_45_code, 3, none) := rCode_of (i := 228) rfl (by decide +kernel)
theorem dn_11 : dnOf dn y11 = some (7, 103) := by decide +kernel
theorem rc_11 : rCode tables_1 y11 = some (prog_1_method_53_code, 10, none) := rCode_of (i := 234) rfl (by decide +kernel)
theorem dn_12 : dnOf dn y12 = some (3, 41) := by decide +kernel
theorem rc_12 : rCode tables_1 y12 = some (prog_1_method_54_code, 4, none) := rCode_of (i := 238) rfl (by decide +kernel)
theorem dn_13 : dnOf dn y13 = some (0, 0) := by decide +kernel
theorem rc_13 : rCode tables_1 y13 = some (prog_1_method_25_code, 4, some .int) := rCode_of (i := 246) rfl (by decide +kernel)
theorem dn_14 : dnOf dn y14 = some (0, 0) := by decide +kernel
theorem rc_14 : rCode tables_1 y14 = some (prog_1_method_23_code, 2, some .boolean) := rCode_of (i := 250) rfl (by decide +kernel)
theorem dn_15 : dnOf dn y15 = some (2, 26) := by decide +kernel
theorem rc_15 : rCode tables_1 y15 = some (prog_1_method_26_code, 4, some .int) := rCode_of (i := 254) rfl (by decide +kernel)
theorem dn_16 : dnOf dn y16 = some (1, 13) := by decide +kernel
theorem rc_16 : rCode tables_1 y16 = some (prog_1_method_24_code, 2, some .boolean) := rCode_of (i := 258) rfl (by decide +kernel)
theorem dn_17 : dnOf dn y17 = some (0, 0) := by decide +kernel
theorem rc_17 : rCode tables_1 y17 = some (prog_1_method_22_code, 2, some .boolean) := rCode_of (i := 262) rfl (by decide +kernel)
theorem dn_18 : dnOf dn y18 = some (0, 0) := by decide +kernel
theorem rc_18 : rCode tables_1 y18 = some (prog_1_method_27_code, 6, some .long) := rCode_of (i := 266) rfl (by decide +kernel)
theorem dn_19 : dnOf dn y19 = some (3, 41) := by decide +kernel
theorem rc_19 : rCode tables_1 y19 = some (prog_1_method_28_code, 3, some .long) := rCode_of (i := 271) rfl (by decide +kernel)
theorem dn_20 : dnOf dn y20 = some (1, 19) := by decide +kernel
theorem rc_20 : rCode tables_1 y20 = some (prog_1_method_33_code, 2, some .long) := rCode_of (i := 275) rfl (by decide +kernel)
theorem dn_21 : dnOf dn y21 = some (0, 0) := by decide +kernel
theorem rc_21 : rCode tables_1 y21 = some (prog_1_method_32_code, 8, some .long) := rCode_of (i := 279) rfl (by decide +kernel)
theorem dn_22 : dnOf dn y22 = some (4, 60) := by decide +kernel
theorem rc_22 : rCode tables_1 y22 = some (prog_1_method_60_code, 3, none) := rCode_of (i := 283) rfl (by decide +kernel)
theorem dn_23 : dnOf dn y23 = some (3, 41) := by decide +kernel
theorem rc_23 : rCode tables_1 y23 = some (prog_1_method_75_code, 8, none) := rCode_of (i := 287) rfl (by decide +kernel)
theorem dn_24 : dnOf dn y24 = some (0, 0) := by decide +kernel
theorem rc_24 : rCode tables_1 y24 = some (prog_1_method_77_code, 5, none) := rCode_of (i := 293) rfl (by decide +kernel)
theorem dn_25 : dnOf dn y25 = some (2, 32) := by decide +kernel
theorem rc_25 : rCode tables_1 y25 = some (prog_1_method_34_code, 4, some .int) := rCode_of (i := 297) rfl (by decide +kernel)
theorem dn_26 : dnOf dn y26 = some (0, 0) := by decide +kernel
theorem rc_26 : rCode tables_1 y26 = some (prog_1_method_36_code, 4, some .int) := rCode_of (i := 301) rfl (by decide +kernel)
theorem dn_27 : dnOf dn y27 = some (5, 69) := by decide +kernel
theorem rc_27 : rCode tables_1 y27 = some (prog_1_method_50_code, 4, none) := rCode_of (i := 305) rfl (by decide +kernel)
theorem dn_28 : dnOf dn y28 = some (4, 55) := by decide +kernel
theorem rc_28 : rCode tables_1 y28 = some (prog_1_method_29_code, 3, some .long) := rCode_of (i := 309) rfl (by decide +kernel)
theorem dn_29 : dnOf dn y29 = some (5, 74) := by decide +kernel
theorem rc_29 : rCode tables_1 y29 = some (prog_1_method_71_code, 6, none) := rCode_of (i := 314) rfl (by decide +kernel)
theorem dn_30 : dnOf dn y30 = some (4, 62) := by decide +kernel
theorem rc_30 : rCode tables_1 y30 = some (prog_1_method_55_code, 1, none) := rCode_of (i := 318) rfl (by decide +kernel)
theorem dn_31 : dnOf dn y31 = some (0, 0) := by decide +kernel
theorem rc_31 : rCode tables_1 y31 = some (prog_1_method_72_code, 6, some .int) := rCode_of (i := 322) rfl (by decide +kernel)
theorem dn_32 : dnOf dn y32 = some (0, 0) := by decide +kernel
theorem rc_32 : rCode tables_1 y32 = some (prog_1_method_65_code, 2, some .boolean) := rCode_of (i := 326) rfl (by decide +kernel)
theorem dn_33 : dnOf dn y33 = some (1, 19) := by decide +kernel
theorem rc_33 : rCode tables_1 y33 = some (prog_1_method_73_code, 7, none) := rCode_of (i := 330) rfl (by decide +kernel)
theorem dn_34 : dnOf dn y34 = some (0, 0) := by decide +kernel
theorem rc_34 : rCode tables_1 y34 = some (prog_1_method_74_code, 8, none) := rCode_of (i := 334) rfl (by decide +kernel)
theorem dn_35 : dnOf dn y35 = some (0, 0) := by decide +kernel
theorem rc_35 : rCode tables_1 y35 = some (prog_1_method_43_code, 2, some .int) := rCode_of (i := 338) rfl (by decide +kernel)
theorem dn_36 : dnOf dn y36 = some (3, 43) := by decide +kernel
theorem rc_36 : rCode tables_1 y36 = some (prog_1_method_46_code, 8, none) := rCode_of (i := 342) rfl (by decide +kernel)
theorem dn_37 : dnOf dn y37 = some (0, 0) := by decide +kernel
theorem rc_37 : rCode tables_1 y37 = some (prog_1_method_44_code, 2, some .int) := rCode_of (i := 346) rfl (by decide +kernel)
theorem dn_38 : dnOf dn y38 = some (2, 26) := by decide +kernel
theorem rc_38 : rCode tables_1 y38 = some (prog_1_method_49_code, 6, some .int) := rCode_of (i := 350) rfl (by decide +kernel)
theorem dn_39 : dnOf dn y39 = some (0, 0) := by decide +kernel
theorem rc_39 : rCode tables_1 y39 = some (prog_1_method_47_code, 2, none) := rCode_of (i := 354) rfl (by decide +kernel)
theorem dn_40 : dnOf dn y40 = some (0, 0) := by decide +kernel
theorem rc_40 : rCode tables_1 y40 = some (prog_1_method_37_code, 5, none) := rCode_of (i := 358) rfl (by decide +kernel)
theorem dn_41 : dnOf dn y41 = some (1, 13) := by decide +kernel
theorem rc_41 : rCode tables_1 y41 = some (prog_1_method_48_code, 5, none) := rCode_of (i := 364) rfl (by decide +kernel)
theorem dn_42 : dnOf dn y42 = some (6, 90) := by decide +kernel
theorem rc_42 : rCode tables_1 y42 = some (prog_1_method_58_code, 2, none) := rCode_of (i := 370) rfl (by decide +kernel)
theorem dn_43 : dnOf dn y43 = some (1, 16) := by decide +kernel
theorem rc_43 : rCode tables_1 y43 = some (prog_1_method_76_code, 5, some .int) := rCode_of (i := 374) rfl (by decide +kernel)
theorem dn_44 : dnOf dn y44 = some (5, 74) := by decide +kernel
theorem rc_44 : rCode tables_1 y44 = some (prog_1_method_62_code, 5, none) := rCode_of (i := 378) rfl (by decide +kernel)
theorem dn_45 : dnOf dn y45 = some (3, 47) := by decide +kernel
theorem rc_45 : rCode tables_1 y45 = some (prog_1_method_56_code, 4, none) := rCode_of (i := 382) rfl (by decide +kernel)
theorem dn_46 : dnOf dn y46 = some (0, 0) := by decide +kernel
theorem rc_46 : rCode tables_1 y46 = some (prog_1_method_35_code, 4, some .int) := rCode_of (i := 386) rfl (by decide +kernel)
theorem dn_47 : dnOf dn y47 = some (2, 32) := by decide +kernel
theorem rc_47 : rCode tables_1 y47 = some (prog_1_method_78_code, 7, some .int) := rCode_of (i := 390) rfl (by decide +kernel)
theorem dn_48 : dnOf dn y48 = some (0, 0) := by decide +kernel
theorem rc_48 : rCode tables_1 y48 = some (prog_1_method_57_code, 2, none) := rCode_of (i := 402) rfl (by decide +kernel)
theorem dn_49 : dnOf dn y49 = some (1, 14) := by decide +kernel
theorem rc_49 : rCode tables_1 y49 = some (prog_1_method_42_code, 1, none) := rCode_of (i := 406) rfl (by decide +kernel)
theorem dn_50 : dnOf dn y50 = some (1, 15) := by decide +kernel
theorem rc_50 : rCode tables_1 y50 = some (prog_1_method_79_code, 6, none) := rCode_of (i := 410) rfl (by decide +kernel)
theorem dn_51 : dnOf dn y51 = some (0, 0) := by decide +kernel
theorem rc_51 : rCode tables_1 y51 = some (prog_1_method_81_code, 3, none) := rCode_of (i := 414) rfl (by decide +kernel)
theorem dn_52 : dnOf dn y52 = some (5, 74) := by decide +kernel
theorem rc_52 : rCode tables_1 y52 = some (prog_1_method_61_code, 2, none) := rCode_of (i := 418) rfl (by decide +kernel)
theorem dn_53 : dnOf dn y53 = some (1, 15) := by decide +kernel
theorem rc_53 : rCode tables_1 y53 = some (prog_1_method_82_code, 5, none) := rCode_of (i := 422) rfl (by decide +kernel)
theorem dn_54 : dnOf dn y54 = some (4, 64) := by decide +kernel
theorem rc_54 : rCode tables_1 y54 = some (prog_1_method_87_code, 3, none) := rCode_of (i := 426) rfl (by decide +kernel)
theorem dn_55 : dnOf dn y55 = some (1, 18) := by decide +kernel
theorem rc_55 : rCode tables_1 y55 = some (prog_1_method_84_code, 6, none) := rCode_of (i := 430) rfl (by decide +kernel)
theorem dn_56 : dnOf dn y56 = some (0, 0) := by decide +kernel
theorem rc_56 : rCode tables_1 y56 = some (prog_1_method_30_code, 7, some .int) := rCode_of (i := 434) rfl (by decide +kernel)
theorem dn_57 : dnOf dn y57 = some (0, 0) := by decide +kernel
theorem rc_57 : rCode tables_1 y57 = some (prog_1_method_31_code, 5, some .int) := rCode_of (i := 438) rfl (by decide +kernel)
theorem dn_58 : dnOf dn y58 = some (0, 0) := by decide +kernel
theorem rc_58 : rCode tables_1 y58 = some (prog_1_method_83_code, 2, none) := rCode_of (i := 443) rfl (by decide +kernel)
theorem dn_59 : dnOf dn y59 = some (2, 35) := by decide +kernel
theorem rc_59 : rCode tables_1 y59 = some (prog_1_method_85_code, 4, none) := rCode_of (i := 447) rfl (by decide +kernel)
theorem dn_60 : dnOf dn y60 = some (1, 16) := by decide +kernel
theorem rc_60 : rCode tables_1 y60 = some (prog_1_method_86_code, 3, none) := rCode_of (i := 451) rfl (by decide +kernel)
theorem dn_61 : dnOf dn y61 = some (3, 50) := by decide +kernel
theorem rc_61 : rCode tables_1 y61 = some (prog_1_method_88_code, 3, some .int) := rCode_of (i := 455) rfl (by decide +kernel)
theorem dn_62 : dnOf dn y62 = some (1, 13) := by decide +kernel
theorem rc_62 : rCode tables_1 y62 = some (prog_1_method_10_code, 2, some .int) := rCode_of (i := 463) rfl (by decide +kernel)
theorem dn_63 : dnOf dn y63 = some (0, 0) := by decide +kernel
theorem rc_63 : rCode tables_1 y63 = some (prog_1_method_9_code, 1, some .int) := rCode_of (i := 468) rfl (by decide +kernel)
theorem dn_64 : dnOf dn y64 = some (0, 0) := by decide +kernel
theorem rc_64 : rCode tables_1 y64 = some (prog_1_method_11_code, 1, some .int) := rCode_of (i := 474) rfl (by decide +kernel)
theorem dn_65 : dnOf dn y65 = some (1, 13) := by decide +kernel
theorem rc_65 : rCode tables_1 y65 = some (prog_1_method_12_code, 2, some .int) := rCode_of (i := 479) rfl (by decide +kernel)
theorem dn_66 : dnOf dn y66 = some (1, 18) := by decide +kernel
theorem rc_66 : rCode tables_1 y66 = some (prog_1_method_13_code, 4, some .int) := rCode_of (i := 485) rfl (by decide +kernel)
theorem dn_67 : dnOf dn y67 = some (0, 0) := by decide +kernel
theorem rc_67 : rCode tables_1 y67 = some (prog_1_method_14_code, 1, some .int) := rCode_of (i := 490) rfl (by decide +kernel)
theorem dn_68 : dnOf dn y68 = some (0, 0) := by decide +kernel
theorem rc_68 : rCode tables_1 y68 = some (prog_1_method_7_code, 1, some .int) := rCode_of (i := 495) rfl (by decide +kernel)
theorem dn_69 : dnOf dn y69 = some (0, 0) := by decide +kernel
theorem rc_69 : rCode tables_1 y69 = some (method_3_code, 3, some .long) := rCode_of (i := 164) rfl (by decide +kernel)
theorem dn_70 : dnOf dn y70 = some (2, 26) := by decide +kernel
theorem rc_70 : rCode tables_1 y70 = some (method_2_code, 4, some .int) := rCode_of (i := 458) rfl (by decide +kernel)
theorem dn_71 : dnOf dn y71 = some (10, 150) := by decide +kernel
theorem gf_7 : gfR tables_1 "MacroAssembler" 7 = some ("MacroAssembler", 0) := by decide +kernel
theorem gf_13 : gfR tables_1 "MacroAssembler" 13 = some ("MacroAssembler", 1) := by decide +kernel
theorem gf_16 : gfR tables_1 "MacroAssembler" 16 = some ("MacroAssembler", 2) := by decide +kernel
theorem gf_19 : gfR tables_1 "MacroAssembler" 19 = some ("MacroAssembler", 3) := by decide +kernel
theorem gf_22 : gfR tables_1 "MacroAssembler" 22 = some ("MacroAssembler", 4) := by decide +kernel
theorem gf_25 : gfR tables_1 "MacroAssembler" 25 = some ("MacroAssembler", 5) := by decide +kernel
theorem gf_28 : gfR tables_1 "MacroAssembler" 28 = some ("MacroAssembler", 6) := by decide +kernel
theorem gf_31 : gfR tables_1 "MacroAssembler" 31 = some ("MacroAssembler", 7) := by decide +kernel
theorem gf_34 : gfR tables_1 "MacroAssembler" 34 = some ("MacroAssembler", 8) := by decide +kernel
theorem gf_37 : gfR tables_1 "MacroAssembler" 37 = some ("MacroAssembler", 9) := by decide +kernel
theorem gf_40 : gfR tables_1 "MacroAssembler" 40 = some ("MacroAssembler", 10) := by decide +kernel
theorem gf_43 : gfR tables_1 "MacroAssembler" 43 = some ("MacroAssembler", 11) := by decide +kernel
theorem gf_46 : gfR tables_1 "MacroAssembler" 46 = some ("MacroAssembler", 12) := by decide +kernel
theorem gf_49 : gfR tables_1 "MacroAssembler" 49 = some ("MacroAssembler", 13) := by decide +kernel
theorem gf_52 : gfR tables_1 "MacroAssembler" 52 = some ("MacroAssembler", 14) := by decide +kernel
theorem gf_55 : gfR tables_1 "MacroAssembler" 55 = some ("MacroAssembler", 15) := by decide +kernel
theorem gf_58 : gfR tables_1 "MacroAssembler" 58 = some ("MacroAssembler", 16) := by decide +kernel
theorem gf_61 : gfR tables_1 "MacroAssembler" 61 = some ("MacroAssembler", 17) := by decide +kernel
theorem gf_64 : gfR tables_1 "MacroAssembler" 64 = some ("MacroAssembler", 18) := by decide +kernel
theorem gf_67 : gfR tables_1 "MacroAssembler" 67 = some ("MacroAssembler", 19) := by decide +kernel
theorem gf_70 : gfR tables_1 "MacroAssembler" 70 = some ("MacroAssembler", 20) := by decide +kernel
theorem gf_73 : gfR tables_1 "MacroAssembler" 73 = some ("MacroAssembler", 21) := by decide +kernel
theorem gf_77 : gfR tables_1 "MacroAssembler" 77 = some ("MacroAssembler", 22) := by decide +kernel
theorem gf_81 : gfR tables_1 "MacroAssembler" 81 = some ("MacroAssembler", 23) := by decide +kernel
theorem gf_84 : gfR tables_1 "MacroAssembler" 84 = some ("MacroAssembler", 24) := by decide +kernel
theorem gf_87 : gfR tables_1 "MacroAssembler" 87 = some ("MacroAssembler", 25) := by decide +kernel
theorem gf_91 : gfR tables_1 "MacroAssembler" 91 = some ("MacroAssembler", 26) := by decide +kernel
theorem gf_94 : gfR tables_1 "MacroAssembler" 94 = some ("MacroAssembler", 27) := by decide +kernel
theorem gf_97 : gfR tables_1 "MacroAssembler" 97 = some ("MacroAssembler", 28) := by decide +kernel
theorem gf_100 : gfR tables_1 "MacroAssembler" 100 = some ("MacroAssembler", 29) := by decide +kernel
theorem gf_103 : gfR tables_1 "MacroAssembler" 103 = some ("MacroAssembler", 30) := by decide +kernel
theorem gf_106 : gfR tables_1 "MacroAssembler" 106 = some ("MacroAssembler", 31) := by decide +kernel
theorem gf_109 : gfR tables_1 "MacroAssembler" 109 = some ("MacroAssembler", 32) := by decide +kernel
theorem gf_112 : gfR tables_1 "MacroAssembler" 112 = some ("MacroAssembler", 33) := by decide +kernel
theorem gf_116 : gfR tables_1 "MacroAssembler" 116 = some ("MacroAssembler", 34) := by decide +kernel
theorem gf_119 : gfR tables_1 "MacroAssembler" 119 = some ("MacroAssembler", 35) := by decide +kernel
theorem gf_122 : gfR tables_1 "MacroAssembler" 122 = some ("MacroAssembler", 36) := by decide +kernel
theorem gf_125 : gfR tables_1 "MacroAssembler" 125 = some ("MacroAssembler", 37) := by decide +kernel
theorem gf_128 : gfR tables_1 "MacroAssembler" 128 = some ("MacroAssembler", 38) := by decide +kernel
theorem gf_131 : gfR tables_1 "MacroAssembler" 131 = some ("MacroAssembler", 39) := by decide +kernel
theorem gf_134 : gfR tables_1 "MacroAssembler" 134 = some ("MacroAssembler", 40) := by decide +kernel
theorem gf_137 : gfR tables_1 "MacroAssembler" 137 = some ("MacroAssembler", 41) := by decide +kernel
theorem gf_140 : gfR tables_1 "MacroAssembler" 140 = some ("MacroAssembler", 42) := by decide +kernel
theorem gf_143 : gfR tables_1 "MacroAssembler" 143 = some ("MacroAssembler", 43) := by decide +kernel
theorem gf_146 : gfR tables_1 "MacroAssembler" 146 = some ("MacroAssembler", 44) := by decide +kernel
theorem gf_149 : gfR tables_1 "MacroAssembler" 149 = some ("MacroAssembler", 45) := by decide +kernel
theorem gf_152 : gfR tables_1 "MacroAssembler" 152 = some ("MacroAssembler", 46) := by decide +kernel
theorem gf_155 : gfR tables_1 "MacroAssembler" 155 = some ("MacroAssembler", 47) := by decide +kernel
theorem gf_158 : gfR tables_1 "MacroAssembler" 158 = some ("MacroAssembler", 48) := by decide +kernel
theorem gf_161 : gfR tables_1 "MacroAssembler" 161 = some ("MacroAssembler", 49) := by decide +kernel
theorem gf_164 : gfR tables_1 "MacroAssembler" 164 = some ("MacroAssembler", 50) := by decide +kernel
theorem gf_167 : gfR tables_1 "MacroAssembler" 167 = some ("MacroAssembler", 51) := by decide +kernel
theorem gf_170 : gfR tables_1 "MacroAssembler" 170 = some ("MacroAssembler", 52) := by decide +kernel
theorem gf_173 : gfR tables_1 "MacroAssembler" 173 = some ("MacroAssembler", 53) := by decide +kernel
theorem gf_176 : gfR tables_1 "MacroAssembler" 176 = some ("MacroAssembler", 54) := by decide +kernel
theorem gf_179 : gfR tables_1 "MacroAssembler" 179 = some ("MacroAssembler", 55) := by decide +kernel
theorem gf_186 : gfR tables_1 "MacroAssembler" 186 = some ("MacroAssembler", 56) := by decide +kernel
theorem gf_199 : gfR tables_1 "MacroAssembler" 199 = some ("MacroAssembler", 73) := by decide +kernel
theorem gf_203 : gfR tables_1 "MacroAssembler" 203 = some ("MacroAssembler", 74) := by decide +kernel
theorem gf_209 : gfR tables_1 "MacroAssembler" 209 = some ("MacroAssembler", 76) := by decide +kernel
theorem gf_212 : gfR tables_1 "MacroAssembler" 212 = some ("MacroAssembler", 75) := by decide +kernel
theorem gf_221 : gfR tables_1 "MacroAssembler" 221 = some ("MacroAssembler", 57) := by decide +kernel
theorem gf_224 : gfR tables_1 "MacroAssembler" 224 = some ("MacroAssembler", 61) := by decide +kernel
theorem gf_227 : gfR tables_1 "MacroAssembler" 227 = some ("MacroAssembler", 58) := by decide +kernel
theorem gf_230 : gfR tables_1 "MacroAssembler" 230 = some ("MacroAssembler", 59) := by decide +kernel
theorem gf_233 : gfR tables_1 "MacroAssembler" 233 = some ("MacroAssembler", 60) := by decide +kernel
theorem gf_236 : gfR tables_1 "MacroAssembler" 236 = some ("MacroAssembler", 62) := by decide +kernel
theorem gf_239 : gfR tables_1 "MacroAssembler" 239 = some ("MacroAssembler", 65) := by decide +kernel
theorem gf_242 : gfR tables_1 "MacroAssembler" 242 = some ("MacroAssembler", 66) := by decide +kernel
theorem gf_274 : gfR tables_1 "MacroAssembler" 274 = some ("MacroAssembler", 80) := by decide +kernel
theorem gf_310 : gfR tables_1 "MacroAssembler" 310 = some ("MacroAssembler", 63) := by decide +kernel
theorem gf_313 : gfR tables_1 "MacroAssembler" 313 = some ("MacroAssembler", 84) := by decide +kernel
theorem gf_316 : gfR tables_1 "MacroAssembler" 316 = some ("MacroAssembler", 64) := by decide +kernel
theorem gf_319 : gfR tables_1 "MacroAssembler" 319 = some ("MacroAssembler", 67) := by decide +kernel
theorem gf_322 : gfR tables_1 "MacroAssembler" 322 = some ("MacroAssembler", 68) := by decide +kernel
theorem gf_325 : gfR tables_1 "MacroAssembler" 325 = some ("MacroAssembler", 69) := by decide +kernel
theorem gf_328 : gfR tables_1 "MacroAssembler" 328 = some ("MacroAssembler", 70) := by decide +kernel
theorem gf_331 : gfR tables_1 "MacroAssembler" 331 = some ("MacroAssembler", 71) := by decide +kernel
theorem gf_334 : gfR tables_1 "MacroAssembler" 334 = some ("MacroAssembler", 72) := by decide +kernel
theorem gf_344 : gfR tables_1 "MacroAssembler" 344 = some ("MacroAssembler", 77) := by decide +kernel
theorem gf_347 : gfR tables_1 "MacroAssembler" 347 = some ("MacroAssembler", 78) := by decide +kernel
theorem gf_350 : gfR tables_1 "MacroAssembler" 350 = some ("MacroAssembler", 79) := by decide +kernel
theorem gf_400 : gfR tables_1 "MacroAssembler" 400 = some ("MacroAssembler", 82) := by decide +kernel
theorem gf_421 : gfR tables_1 "MacroAssembler" 421 = some ("MacroAssembler", 81) := by decide +kernel
theorem gf_424 : gfR tables_1 "MacroAssembler" 424 = some ("MacroAssembler", 85) := by decide +kernel
theorem gf_450 : gfR tables_1 "MacroAssembler" 450 = some ("MacroAssembler", 83) := by decide +kernel
theorem gf_462 : gfR tables_1 "MacroAssembler" 462 = some ("MacroAssembler", 88) := by decide +kernel
theorem gf_465 : gfR tables_1 "MacroAssembler" 465 = some ("MacroAssembler", 86) := by decide +kernel
theorem gf_510 : gfR tables_1 "MacroAssembler" 510 = some ("MacroAssembler", 87) := by decide +kernel
theorem gf_513 : gfR tables_1 "MacroAssembler" 513 = some ("MacroAssembler", 89) := by decide +kernel
theorem dc {c : ByteArray} {pc : Nat} (x : Instr × Nat) (h : decode c pc = .ok x := by decide +kernel) : decode c pc = .ok x := h
theorem w_ki {ws : Ws} {dn : Dn} {k : Nat} {y : MethodName} {bytes : ByteArray} {ret : Option FieldType} {pc : Nat} {ls : List Slot} {st : List Value} {H : AHeap} {Q : Option Value → AHeap → Prop} {ins : Instr} {len nx : Nat} {v : Value} (n : Int32) (hd : decode bytes pc = .ok (ins, len)) (hx : xstep ins len pc ls st = some (nx, ls, v :: st)) (hv : v = .int n := by decide) : W ws dn k y bytes ret pc ls st H Q = W ws dn k y bytes ret nx ls (.int n :: st) H Q := w_con hd hx hv
theorem w_kl {ws : Ws} {dn : Dn} {k : Nat} {y : MethodName} {bytes : ByteArray} {ret : Option FieldType} {pc : Nat} {ls : List Slot} {st : List Value} {H : AHeap} {Q : Option Value → AHeap → Prop} {ins : Instr} {len nx : Nat} {v : Value} (n : Int64) (hd : decode bytes pc = .ok (ins, len)) (hx : xstep ins len pc ls st = some (nx, ls, v :: st)) (hv : v = .long n := by decide) : W ws dn k y bytes ret pc ls st H Q = W ws dn k y bytes ret nx ls (.long n :: st) H Q := w_con hd hx hv
set_option maxRecDepth 100000
section Rules
variable {b r q : Nat} {pre : AHeap} {s : Nat → Int32} {A : Nat → List Int32} {L : Nat → Int64} {B : Nat → List Int64} {post : AHeap} {ls : List Slot} {st : List Value} {H R : AHeap} {Q : Option Value → AHeap → Prop} {x y v z j : Int32} {J1 J2 : Int64} {sc : List Int32} {l0 l1 l2 l3 l4 l5 l6 l7 l8 l9 : Slot} {v0 v1 v2 v3 v4 v5 v6 v7 v8 v9 : Int32} {w0 w1 w2 w3 w4 w5 w6 w7 w8 w9 : Int64} {e g : AHeap}
theorem m0_0 : M0 0 [.val (.ref r), l1, l2] st H Q = M0 1 [.val (.ref r), l1, l2] (.ref r :: st) H Q := w_x (dc (.aload_n 0, 1)) rfl
theorem m0_1 : M0 1 ls [.ref r] H Q = M0 4 ls [] H Q := w_obj (dc (.invokespecial 1, 3)) (sl := 0) (by decide +kernel) (by decide)
theorem m0_4 : M0 4 [.val (.ref r), l1, l2] st H Q = M0 5 [.val (.ref r), l1, l2] (.ref r :: st) H Q := w_x (dc (.aload_n 0, 1)) rfl
theorem m0_5 : M0 5 ls st H Q = M0 6 ls (.int 1 :: st) H Q := w_con (dc (.iconst 1, 1)) rfl (by decide)
theorem pf0_7 : pfR tables_1 y0.cls y0.name 7 = some ("MacroAssembler", 0, .int) := by decide +kernel
theorem m0_6 : M0 6 ls (.int v :: .ref b :: st) (put b e s A L B g) Q = M0 9 ls st (put b e (ou s 0 v) A L B g) Q := w_put (dc (.putfield 7, 3)) pf0_7 put_o (Nat.zero_le _) (by show 0 < 90; omega) rfl put_s0
theorem m0_9 : M0 9 [.val (.ref r), l1, l2] st H Q = M0 10 [.val (.ref r), l1, l2] (.ref r :: st) H Q := w_x (dc (.aload_n 0, 1)) rfl
theorem m0_10 : M0 10 ls st H Q = M0 11 ls (.int 2 :: st) H Q := w_con (dc (.iconst 2, 1)) rfl (by decide)
theorem pf0_13 : pfR tables_1 y0.cls y0.name 13 = some ("MacroAssembler", 1, .int) := by decide +kernel
theorem m0_11 : M0 11 ls (.int v :: .ref b :: st) (put b e s A L B g) Q = M0 14 ls st (put b e (ou s 1 v) A L B g) Q := w_put (dc (.putfield 13, 3)) pf0_13 put_o (Nat.zero_le _) (by show 1 < 90; omega) rfl put_s1
theorem m0_14 : M0 14 [.val (.ref r), l1, l2] st H Q = M0 15 [.val (.ref r), l1, l2] (.ref r :: st) H Q := w_x (dc (.aload_n 0, 1)) rfl
theorem m0_15 : M0 15 ls st H Q = M0 16 ls (.int 1 :: st) H Q := w_con (dc (.iconst 1, 1)) rfl (by decide)
theorem pf0_16 : pfR tables_1 y0.cls y0.name 16 = some ("MacroAssembler", 2, .int) := by decide +kernel
theorem m0_16 : M0 16 ls (.int v :: .ref b :: st) (put b e s A L B g) Q = M0 19 ls st (put b e (ou s 2 v) A L B g) Q := w_put (dc (.putfield 16, 3)) pf0_16 put_o (Nat.zero_le _) (by show 2 < 90; omega) rfl put_s2
theorem m0_19 : M0 19 [.val (.ref r), l1, l2] st H Q = M0 20 [.val (.ref r), l1, l2] (.ref r :: st) H Q := w_x (dc (.aload_n 0, 1)) rfl
theorem m0_20 : M0 20 ls st H Q = M0 21 ls (.int 2 :: st) H Q := w_con (dc (.iconst 2, 1)) rfl (by decide)
theorem pf0_19 : pfR tables_1 y0.cls y0.name 19 = some ("MacroAssembler", 3, .int) := by decide +kernel
theorem m0_21 : M0 21 ls (.int v :: .ref b :: st) (put b e s A L B g) Q = M0 24 ls st (put b e (ou s 3 v) A L B g) Q := w_put (dc (.putfield 19, 3)) pf0_19 put_o (Nat.zero_le _) (by show 3 < 90; omega) rfl put_s3
theorem m0_24 : M0 24 [.val (.ref r), l1, l2] st H Q = M0 25 [.val (.ref r), l1, l2] (.ref r :: st) H Q := w_x (dc (.aload_n 0, 1)) rfl
theorem m0_25 : M0 25 ls st H Q = M0 26 ls (.int 3 :: st) H Q := w_con (dc (.iconst 3, 1)) rfl (by decide)
theorem pf0_22 : pfR tables_1 y0.cls y0.name 22 = some ("MacroAssembler", 4, .int) := by decide +kernel
theorem m0_26 : M0 26 ls (.int v :: .ref b :: st) (put b e s A L B g) Q = M0 29 ls st (put b e (ou s 4 v) A L B g) Q := w_put (dc (.putfield 22, 3)) pf0_22 put_o (Nat.zero_le _) (by show 4 < 90; omega) rfl put_s4
theorem m0_29 : M0 29 [.val (.ref r), l1, l2] st H Q = M0 30 [.val (.ref r), l1, l2] (.ref r :: st) H Q := w_x (dc (.aload_n 0, 1)) rfl
theorem m0_30 : M0 30 ls st H Q = M0 31 ls (.int 0 :: st) H Q := w_con (dc (.iconst 0, 1)) rfl (by decide)
theorem pf0_25 : pfR tables_1 y0.cls y0.name 25 = some ("MacroAssembler", 5, .int) := by decide +kernel
theorem m0_31 : M0 31 ls (.int v :: .ref b :: st) (put b e s A L B g) Q = M0 34 ls st (put b e (ou s 5 v) A L B g) Q := w_put (dc (.putfield 25, 3)) pf0_25 put_o (Nat.zero_le _) (by show 5 < 90; omega) rfl put_s5
theorem m0_34 : M0 34 [.val (.ref r), l1, l2] st H Q = M0 35 [.val (.ref r), l1, l2] (.ref r :: st) H Q := w_x (dc (.aload_n 0, 1)) rfl
theorem m0_35 : M0 35 ls st H Q = M0 36 ls (.int 1 :: st) H Q := w_con (dc (.iconst 1, 1)) rfl (by decide)
theorem pf0_28 : pfR tables_1 y0.cls y0.name 28 = some ("MacroAssembler", 6, .int) := by decide +kernel
theorem m0_36 : M0 36 ls (.int v :: .ref b :: st) (put b e s A L B g) Q = M0 39 ls st (put b e (ou s 6 v) A L B g) Q := w_put (dc (.putfield 28, 3)) pf0_28 put_o (Nat.zero_le _) (by show 6 < 90; omega) rfl put_s6
theorem m0_39 : M0 39 [.val (.ref r), l1, l2] st H Q = M0 40 [.val (.ref r), l1, l2] (.ref r :: st) H Q := w_x (dc (.aload_n 0, 1)) rfl
theorem m0_40 : M0 40 ls st H Q = M0 41 ls (.int 2 :: st) H Q := w_con (dc (.iconst 2, 1)) rfl (by decide)
theorem pf0_31 : pfR tables_1 y0.cls y0.name 31 = some ("MacroAssembler", 7, .int) := by decide +kernel
theorem m0_41 : M0 41 ls (.int v :: .ref b :: st) (put b e s A L B g) Q = M0 44 ls st (put b e (ou s 7 v) A L B g) Q := w_put (dc (.putfield 31, 3)) pf0_31 put_o (Nat.zero_le _) (by show 7 < 90; omega) rfl put_s7
theorem m0_44 : M0 44 [.val (.ref r), l1, l2] st H Q = M0 45 [.val (.ref r), l1, l2] (.ref r :: st) H Q := w_x (dc (.aload_n 0, 1)) rfl
theorem m0_45 : M0 45 ls st H Q = M0 46 ls (.int 0 :: st) H Q := w_con (dc (.iconst 0, 1)) rfl (by decide)
theorem pf0_34 : pfR tables_1 y0.cls y0.name 34 = some ("MacroAssembler", 8, .int) := by decide +kernel
theorem m0_46 : M0 46 ls (.int v :: .ref b :: st) (put b e s A L B g) Q = M0 49 ls st (put b e (ou s 8 v) A L B g) Q := w_put (dc (.putfield 34, 3)) pf0_34 put_o (Nat.zero_le _) (by show 8 < 90; omega) rfl put_s8
theorem m0_49 : M0 49 [.val (.ref r), l1, l2] st H Q = M0 50 [.val (.ref r), l1, l2] (.ref r :: st) H Q := w_x (dc (.aload_n 0, 1)) rfl
theorem m0_50 : M0 50 ls st H Q = M0 51 ls (.int 1 :: st) H Q := w_con (dc (.iconst 1, 1)) rfl (by decide)
theorem pf0_37 : pfR tables_1 y0.cls y0.name 37 = some ("MacroAssembler", 9, .int) := by decide +kernel
theorem m0_51 : M0 51 ls (.int v :: .ref b :: st) (put b e s A L B g) Q = M0 54 ls st (put b e (ou s 9 v) A L B g) Q := w_put (dc (.putfield 37, 3)) pf0_37 put_o (Nat.zero_le _) (by show 9 < 90; omega) rfl put_s9
theorem m0_54 : M0 54 [.val (.ref r), l1, l2] st H Q = M0 55 [.val (.ref r), l1, l2] (.ref r :: st) H Q := w_x (dc (.aload_n 0, 1)) rfl
theorem m0_55 : M0 55 ls st H Q = M0 56 ls (.int 2 :: st) H Q := w_con (dc (.iconst 2, 1)) rfl (by decide)
theorem pf0_40 : pfR tables_1 y0.cls y0.name 40 = some ("MacroAssembler", 10, .int) := by decide +kernel
theorem m0_56 : M0 56 ls (.int v :: .ref b :: st) (put b e s A L B g) Q = M0 59 ls st (put b e (ou s 10 v) A L B g) Q := w_put (dc (.putfield 40, 3)) pf0_40 put_o (Nat.zero_le _) (by show 10 < 90; omega) rfl put_s10
theorem m0_59 : M0 59 [.val (.ref r), l1, l2] st H Q = M0 60 [.val (.ref r), l1, l2] (.ref r :: st) H Q := w_x (dc (.aload_n 0, 1)) rfl
theorem m0_60 : M0 60 ls st H Q = M0 62 ls (.int 10 :: st) H Q := w_con (dc (.bipush 10, 2)) rfl (by decide)
theorem pf0_43 : pfR tables_1 y0.cls y0.name 43 = some ("MacroAssembler", 11, .int) := by decide +kernel
theorem m0_62 : M0 62 ls (.int v :: .ref b :: st) (put b e s A L B g) Q = M0 65 ls st (put b e (ou s 11 v) A L B g) Q := w_put (dc (.putfield 43, 3)) pf0_43 put_o (Nat.zero_le _) (by show 11 < 90; omega) rfl put_s11
theorem m0_65 : M0 65 [.val (.ref r), l1, l2] st H Q = M0 66 [.val (.ref r), l1, l2] (.ref r :: st) H Q := w_x (dc (.aload_n 0, 1)) rfl
theorem m0_66 : M0 66 ls st H Q = M0 68 ls (.int 11 :: st) H Q := w_con (dc (.bipush 11, 2)) rfl (by decide)
theorem pf0_46 : pfR tables_1 y0.cls y0.name 46 = some ("MacroAssembler", 12, .int) := by decide +kernel
theorem m0_68 : M0 68 ls (.int v :: .ref b :: st) (put b e s A L B g) Q = M0 71 ls st (put b e (ou s 12 v) A L B g) Q := w_put (dc (.putfield 46, 3)) pf0_46 put_o (Nat.zero_le _) (by show 12 < 90; omega) rfl put_s12
theorem m0_71 : M0 71 [.val (.ref r), l1, l2] st H Q = M0 72 [.val (.ref r), l1, l2] (.ref r :: st) H Q := w_x (dc (.aload_n 0, 1)) rfl
theorem m0_72 : M0 72 ls st H Q = M0 74 ls (.int 12 :: st) H Q := w_con (dc (.bipush 12, 2)) rfl (by decide)
theorem pf0_49 : pfR tables_1 y0.cls y0.name 49 = some ("MacroAssembler", 13, .int) := by decide +kernel
theorem m0_74 : M0 74 ls (.int v :: .ref b :: st) (put b e s A L B g) Q = M0 77 ls st (put b e (ou s 13 v) A L B g) Q := w_put (dc (.putfield 49, 3)) pf0_49 put_o (Nat.zero_le _) (by show 13 < 90; omega) rfl put_s13
theorem m0_77 : M0 77 [.val (.ref r), l1, l2] st H Q = M0 78 [.val (.ref r), l1, l2] (.ref r :: st) H Q := w_x (dc (.aload_n 0, 1)) rfl
theorem m0_78 : M0 78 ls st H Q = M0 80 ls (.int 13 :: st) H Q := w_con (dc (.bipush 13, 2)) rfl (by decide)
theorem pf0_52 : pfR tables_1 y0.cls y0.name 52 = some ("MacroAssembler", 14, .int) := by decide +kernel
theorem m0_80 : M0 80 ls (.int v :: .ref b :: st) (put b e s A L B g) Q = M0 83 ls st (put b e (ou s 14 v) A L B g) Q := w_put (dc (.putfield 52, 3)) pf0_52 put_o (Nat.zero_le _) (by show 14 < 90; omega) rfl put_s14
theorem m0_83 : M0 83 [.val (.ref r), l1, l2] st H Q = M0 84 [.val (.ref r), l1, l2] (.ref r :: st) H Q := w_x (dc (.aload_n 0, 1)) rfl
theorem m0_84 : M0 84 ls st H Q = M0 86 ls (.int 14 :: st) H Q := w_con (dc (.bipush 14, 2)) rfl (by decide)
theorem pf0_55 : pfR tables_1 y0.cls y0.name 55 = some ("MacroAssembler", 15, .int) := by decide +kernel
theorem m0_86 : M0 86 ls (.int v :: .ref b :: st) (put b e s A L B g) Q = M0 89 ls st (put b e (ou s 15 v) A L B g) Q := w_put (dc (.putfield 55, 3)) pf0_55 put_o (Nat.zero_le _) (by show 15 < 90; omega) rfl put_s15
theorem m0_89 : M0 89 [.val (.ref r), l1, l2] st H Q = M0 90 [.val (.ref r), l1, l2] (.ref r :: st) H Q := w_x (dc (.aload_n 0, 1)) rfl
theorem m0_90 : M0 90 ls st H Q = M0 92 ls (.int 15 :: st) H Q := w_con (dc (.bipush 15, 2)) rfl (by decide)
theorem pf0_58 : pfR tables_1 y0.cls y0.name 58 = some ("MacroAssembler", 16, .int) := by decide +kernel
theorem m0_92 : M0 92 ls (.int v :: .ref b :: st) (put b e s A L B g) Q = M0 95 ls st (put b e (ou s 16 v) A L B g) Q := w_put (dc (.putfield 58, 3)) pf0_58 put_o (Nat.zero_le _) (by show 16 < 90; omega) rfl put_s16
theorem m0_95 : M0 95 [.val (.ref r), l1, l2] st H Q = M0 96 [.val (.ref r), l1, l2] (.ref r :: st) H Q := w_x (dc (.aload_n 0, 1)) rfl
theorem m0_96 : M0 96 ls st H Q = M0 98 ls (.int 16 :: st) H Q := w_con (dc (.bipush 16, 2)) rfl (by decide)
theorem pf0_61 : pfR tables_1 y0.cls y0.name 61 = some ("MacroAssembler", 17, .int) := by decide +kernel
theorem m0_98 : M0 98 ls (.int v :: .ref b :: st) (put b e s A L B g) Q = M0 101 ls st (put b e (ou s 17 v) A L B g) Q := w_put (dc (.putfield 61, 3)) pf0_61 put_o (Nat.zero_le _) (by show 17 < 90; omega) rfl put_s17
theorem m0_101 : M0 101 [.val (.ref r), l1, l2] st H Q = M0 102 [.val (.ref r), l1, l2] (.ref r :: st) H Q := w_x (dc (.aload_n 0, 1)) rfl
theorem m0_102 : M0 102 ls st H Q = M0 104 ls (.int 17 :: st) H Q := w_con (dc (.bipush 17, 2)) rfl (by decide)
theorem pf0_64 : pfR tables_1 y0.cls y0.name 64 = some ("MacroAssembler", 18, .int) := by decide +kernel
theorem m0_104 : M0 104 ls (.int v :: .ref b :: st) (put b e s A L B g) Q = M0 107 ls st (put b e (ou s 18 v) A L B g) Q := w_put (dc (.putfield 64, 3)) pf0_64 put_o (Nat.zero_le _) (by show 18 < 90; omega) rfl put_s18
theorem m0_107 : M0 107 [.val (.ref r), l1, l2] st H Q = M0 108 [.val (.ref r), l1, l2] (.ref r :: st) H Q := w_x (dc (.aload_n 0, 1)) rfl
theorem m0_108 : M0 108 ls st H Q = M0 110 ls (.int 18 :: st) H Q := w_con (dc (.bipush 18, 2)) rfl (by decide)
theorem pf0_67 : pfR tables_1 y0.cls y0.name 67 = some ("MacroAssembler", 19, .int) := by decide +kernel
theorem m0_110 : M0 110 ls (.int v :: .ref b :: st) (put b e s A L B g) Q = M0 113 ls st (put b e (ou s 19 v) A L B g) Q := w_put (dc (.putfield 67, 3)) pf0_67 put_o (Nat.zero_le _) (by show 19 < 90; omega) rfl put_s19
theorem m0_113 : M0 113 [.val (.ref r), l1, l2] st H Q = M0 114 [.val (.ref r), l1, l2] (.ref r :: st) H Q := w_x (dc (.aload_n 0, 1)) rfl
theorem m0_114 : M0 114 ls st H Q = M0 116 ls (.int 81 :: st) H Q := w_con (dc (.bipush 81, 2)) rfl (by decide)
theorem pf0_70 : pfR tables_1 y0.cls y0.name 70 = some ("MacroAssembler", 20, .int) := by decide +kernel
theorem m0_116 : M0 116 ls (.int v :: .ref b :: st) (put b e s A L B g) Q = M0 119 ls st (put b e (ou s 20 v) A L B g) Q := w_put (dc (.putfield 70, 3)) pf0_70 put_o (Nat.zero_le _) (by show 20 < 90; omega) rfl put_s20
theorem m0_119 : M0 119 [.val (.ref r), l1, l2] st H Q = M0 120 [.val (.ref r), l1, l2] (.ref r :: st) H Q := w_x (dc (.aload_n 0, 1)) rfl
theorem m0_120 : M0 120 ls st H Q = M0 123 ls (.int 640 :: st) H Q := w_con (dc (.sipush 640, 3)) rfl (by decide)
theorem m0_128 : M0 128 [.val (.ref r), l1, l2] st H Q = M0 129 [.val (.ref r), l1, l2] (.ref r :: st) H Q := w_x (dc (.aload_n 0, 1)) rfl
theorem m0_129 : M0 129 ls st H Q = M0 132 ls (.int 640 :: st) H Q := w_con (dc (.sipush 640, 3)) rfl (by decide)
theorem m0_137 : M0 137 [.val (.ref r), l1, l2] st H Q = M0 138 [.val (.ref r), l1, l2] (.ref r :: st) H Q := w_x (dc (.aload_n 0, 1)) rfl
theorem m0_138 : M0 138 ls st H Q = M0 141 ls (.int 640 :: st) H Q := w_con (dc (.sipush 640, 3)) rfl (by decide)
theorem m0_146 : M0 146 [.val (.ref r), l1, l2] st H Q = M0 147 [.val (.ref r), l1, l2] (.ref r :: st) H Q := w_x (dc (.aload_n 0, 1)) rfl
theorem m0_147 : M0 147 ls st H Q = M0 149 ls (.int 32 :: st) H Q := w_con (dc (.bipush 32, 2)) rfl (by decide)
theorem m0_154 : M0 154 [.val (.ref r), l1, l2] st H Q = M0 155 [.val (.ref r), l1, l2] (.ref r :: st) H Q := w_x (dc (.aload_n 0, 1)) rfl
theorem m0_155 : M0 155 ls st H Q = M0 157 ls (.int 16 :: st) H Q := w_con (dc (.bipush 16, 2)) rfl (by decide)
theorem m0_162 : M0 162 [.val (.ref r), l1, l2] st H Q = M0 163 [.val (.ref r), l1, l2] (.ref r :: st) H Q := w_x (dc (.aload_n 0, 1)) rfl
theorem m0_163 : M0 163 ls st H Q = M0 165 ls (.int 16 :: st) H Q := w_con (dc (.bipush 16, 2)) rfl (by decide)
theorem m0_170 : M0 170 [.val (.ref r), l1, l2] st H Q = M0 171 [.val (.ref r), l1, l2] (.ref r :: st) H Q := w_x (dc (.aload_n 0, 1)) rfl
theorem m0_171 : M0 171 ls st H Q = M0 174 ls (.int 624 :: st) H Q := w_con (dc (.sipush 624, 3)) rfl (by decide)
theorem m0_179 : M0 179 [.val (.ref r), l1, l2] st H Q = M0 180 [.val (.ref r), l1, l2] (.ref r :: st) H Q := w_x (dc (.aload_n 0, 1)) rfl
theorem m0_180 : M0 180 ls st H Q = M0 182 ls (.int 12 :: st) H Q := w_con (dc (.bipush 12, 2)) rfl (by decide)
theorem m0_187 : M0 187 [.val (.ref r), l1, l2] st H Q = M0 188 [.val (.ref r), l1, l2] (.ref r :: st) H Q := w_x (dc (.aload_n 0, 1)) rfl
theorem m0_188 : M0 188 ls st H Q = M0 190 ls (.int 8 :: st) H Q := w_con (dc (.bipush 8, 2)) rfl (by decide)
theorem m0_195 : M0 195 [.val (.ref r), l1, l2] st H Q = M0 196 [.val (.ref r), l1, l2] (.ref r :: st) H Q := w_x (dc (.aload_n 0, 1)) rfl
theorem m0_196 : M0 196 ls st H Q = M0 198 ls (.int 8 :: st) H Q := w_con (dc (.bipush 8, 2)) rfl (by decide)
theorem m0_203 : M0 203 [.val (.ref r), l1, l2] st H Q = M0 204 [.val (.ref r), l1, l2] (.ref r :: st) H Q := w_x (dc (.aload_n 0, 1)) rfl
theorem m0_204 : M0 204 ls st H Q = M0 206 ls (.int 8 :: st) H Q := w_con (dc (.bipush 8, 2)) rfl (by decide)
theorem m0_211 : M0 211 [.val (.ref r), l1, l2] st H Q = M0 212 [.val (.ref r), l1, l2] (.ref r :: st) H Q := w_x (dc (.aload_n 0, 1)) rfl
theorem m0_212 : M0 212 ls st H Q = M0 214 ls (.int 8 :: st) H Q := w_con (dc (.bipush 8, 2)) rfl (by decide)
theorem m0_219 : M0 219 [.val (.ref r), l1, l2] st H Q = M0 220 [.val (.ref r), l1, l2] (.ref r :: st) H Q := w_x (dc (.aload_n 0, 1)) rfl
theorem m0_220 : M0 220 ls st H Q = M0 222 ls (.int 8 :: st) H Q := w_con (dc (.bipush 8, 2)) rfl (by decide)
theorem m0_227 : M0 227 [.val (.ref r), l1, l2] st H Q = M0 228 [.val (.ref r), l1, l2] (.ref r :: st) H Q := w_x (dc (.aload_n 0, 1)) rfl
theorem m0_228 : M0 228 ls st H Q = M0 230 ls (.int 8 :: st) H Q := w_con (dc (.bipush 8, 2)) rfl (by decide)
theorem m0_235 : M0 235 [.val (.ref r), l1, l2] st H Q = M0 236 [.val (.ref r), l1, l2] (.ref r :: st) H Q := w_x (dc (.aload_n 0, 1)) rfl
theorem m0_236 : M0 236 ls st H Q = M0 238 ls (.int 8 :: st) H Q := w_con (dc (.bipush 8, 2)) rfl (by decide)
theorem m0_243 : M0 243 [.val (.ref r), l1, l2] st H Q = M0 244 [.val (.ref r), l1, l2] (.ref r :: st) H Q := w_x (dc (.aload_n 0, 1)) rfl
theorem m0_244 : M0 244 ls st H Q = M0 246 ls (.int 8 :: st) H Q := w_con (dc (.bipush 8, 2)) rfl (by decide)
theorem m0_251 : M0 251 [.val (.ref r), l1, l2] st H Q = M0 252 [.val (.ref r), l1, l2] (.ref r :: st) H Q := w_x (dc (.aload_n 0, 1)) rfl
theorem m0_252 : M0 252 ls st H Q = M0 254 ls (.int 8 :: st) H Q := w_con (dc (.bipush 8, 2)) rfl (by decide)
theorem m0_259 : M0 259 [.val (.ref r), l1, l2] st H Q = M0 260 [.val (.ref r), l1, l2] (.ref r :: st) H Q := w_x (dc (.aload_n 0, 1)) rfl
theorem m0_260 : M0 260 ls st H Q = M0 262 ls (.int 8 :: st) H Q := w_con (dc (.bipush 8, 2)) rfl (by decide)
theorem m0_267 : M0 267 [.val (.ref r), l1, l2] st H Q = M0 268 [.val (.ref r), l1, l2] (.ref r :: st) H Q := w_x (dc (.aload_n 0, 1)) rfl
theorem m0_268 : M0 268 ls st H Q = M0 270 ls (.int 8 :: st) H Q := w_con (dc (.bipush 8, 2)) rfl (by decide)
theorem m0_275 : M0 275 [.val (.ref r), l1, l2] st H Q = M0 276 [.val (.ref r), l1, l2] (.ref r :: st) H Q := w_x (dc (.aload_n 0, 1)) rfl
theorem m0_276 : M0 276 ls st H Q = M0 278 ls (.int 32 :: st) H Q := w_con (dc (.bipush 32, 2)) rfl (by decide)
theorem m0_283 : M0 283 [.val (.ref r), l1, l2] st H Q = M0 284 [.val (.ref r), l1, l2] (.ref r :: st) H Q := w_x (dc (.aload_n 0, 1)) rfl
theorem m0_284 : M0 284 ls st H Q = M0 287 ls (.int 2592 :: st) H Q := w_con (dc (.sipush 2592, 3)) rfl (by decide)
theorem m0_292 : M0 292 [.val (.ref r), l1, l2] st H Q = M0 293 [.val (.ref r), l1, l2] (.ref r :: st) H Q := w_x (dc (.aload_n 0, 1)) rfl
theorem m0_293 : M0 293 ls st H Q = M0 296 ls (.int 640 :: st) H Q := w_con (dc (.sipush 640, 3)) rfl (by decide)
theorem m0_301 : M0 301 [.val (.ref r), l1, l2] st H Q = M0 302 [.val (.ref r), l1, l2] (.ref r :: st) H Q := w_x (dc (.aload_n 0, 1)) rfl
theorem m0_302 : M0 302 ls st H Q = M0 305 ls (.int 640 :: st) H Q := w_con (dc (.sipush 640, 3)) rfl (by decide)
theorem m0_310 : M0 310 [.val (.ref r), l1, l2] st H Q = M0 311 [.val (.ref r), l1, l2] (.ref r :: st) H Q := w_x (dc (.aload_n 0, 1)) rfl
theorem m0_311 : M0 311 ls st H Q = M0 314 ls (.int 640 :: st) H Q := w_con (dc (.sipush 640, 3)) rfl (by decide)
theorem m0_319 : M0 319 [.val (.ref r), l1, l2] st H Q = M0 320 [.val (.ref r), l1, l2] (.ref r :: st) H Q := w_x (dc (.aload_n 0, 1)) rfl
theorem m0_320 : M0 320 ls st H Q = M0 323 ls (.int 640 :: st) H Q := w_con (dc (.sipush 640, 3)) rfl (by decide)
theorem m0_328 : M0 328 [.val (.ref r), l1, l2] st H Q = M0 329 [.val (.ref r), l1, l2] (.ref r :: st) H Q := w_x (dc (.aload_n 0, 1)) rfl
theorem m0_329 : M0 329 ls st H Q = M0 331 ls (.int 16 :: st) H Q := w_con (dc (.bipush 16, 2)) rfl (by decide)
theorem m0_336 : M0 336 [.val (.ref r), l1, l2] st H Q = M0 337 [.val (.ref r), l1, l2] (.ref r :: st) H Q := w_x (dc (.aload_n 0, 1)) rfl
theorem m0_337 : M0 337 ls st H Q = M0 339 ls (.int 16 :: st) H Q := w_con (dc (.bipush 16, 2)) rfl (by decide)
theorem m0_344 : M0 344 [.val (.ref r), l1, l2] st H Q = M0 345 [.val (.ref r), l1, l2] (.ref r :: st) H Q := w_x (dc (.aload_n 0, 1)) rfl
theorem m0_345 : M0 345 ls st H Q = M0 347 ls (.int 32 :: st) H Q := w_con (dc (.bipush 32, 2)) rfl (by decide)
theorem m0_352 : M0 352 [.val (.ref r), l1, l2] st H Q = M0 353 [.val (.ref r), l1, l2] (.ref r :: st) H Q := w_x (dc (.aload_n 0, 1)) rfl
theorem m0_353 : M0 353 ls st H Q = M0 355 ls (.int 32 :: st) H Q := w_con (dc (.bipush 32, 2)) rfl (by decide)
theorem m0_360 : M0 360 [.val (.ref r), l1, l2] st H Q = M0 361 [.val (.ref r), l1, l2] (.ref r :: st) H Q := w_x (dc (.aload_n 0, 1)) rfl
theorem m0_361 : M0 361 ls st H Q = M0 363 ls (.int 32 :: st) H Q := w_con (dc (.bipush 32, 2)) rfl (by decide)
theorem m0_368 : M0 368 [.val (.ref r), l1, l2] st H Q = M0 369 [.val (.ref r), l1, l2] (.ref r :: st) H Q := w_x (dc (.aload_n 0, 1)) rfl
theorem m0_369 : M0 369 ls st H Q = M0 371 ls (.int 32 :: st) H Q := w_con (dc (.bipush 32, 2)) rfl (by decide)
theorem m0_376 : M0 376 [.val (.ref r), l1, l2] st H Q = M0 377 [.val (.ref r), l1, l2] (.ref r :: st) H Q := w_x (dc (.aload_n 0, 1)) rfl
theorem m0_377 : M0 377 ls st H Q = M0 379 ls (.int 32 :: st) H Q := w_con (dc (.bipush 32, 2)) rfl (by decide)
theorem m0_384 : M0 384 [.val (.ref r), l1, l2] st H Q = M0 385 [.val (.ref r), l1, l2] (.ref r :: st) H Q := w_x (dc (.aload_n 0, 1)) rfl
theorem m0_385 : M0 385 ls st H Q = M0 388 ls (.int 512 :: st) H Q := w_con (dc (.sipush 512, 3)) rfl (by decide)
theorem m0_393 : M0 393 [.val (.ref r), l1, l2] st H Q = M0 394 [.val (.ref r), l1, l2] (.ref r :: st) H Q := w_x (dc (.aload_n 0, 1)) rfl
theorem m0_394 : M0 394 ls st H Q = M0 397 ls (.int 512 :: st) H Q := w_con (dc (.sipush 512, 3)) rfl (by decide)
theorem m0_402 : M0 402 [l0, .val (.int v), l2] st H Q = M0 403 [l0, .val (.int v), l2] (.int v :: st) H Q := w_x (dc (.iload_n 1, 1)) rfl
theorem m0_403u : M0 403 [l0, l1, .unset] ((.int v) :: st) H Q = M0 404 [l0, l1, .val (.int v)] st H Q := w_st (i := 2) (p := isI) (dc (.istore_n 2, 1)) rfl rfl rfl rfl rfl rfl
theorem m0_404 : M0 404 [l0, l1, .val (.int v)] st H Q = M0 405 [l0, l1, .val (.int v)] (.int v :: st) H Q := w_x (dc (.iload_n 2, 1)) rfl
theorem m0_405 : M0 405 ls st H Q = M0 407 ls (.int 8 :: st) H Q := w_con (dc (.bipush 8, 2)) rfl (by decide)
theorem m0_407 : M0 407 ls (.int y :: .int x :: st) H Q = if x < y then M0 410 ls st H Q else M0 413 ls st H Q := w_icmpN (dc (.if_icmp .ge 6, 3)) (i_ge x y) rfl
theorem m0_410 : M0 410 ls st H Q = M0 412 ls (.int 8 :: st) H Q := w_con (dc (.bipush 8, 2)) rfl (by decide)
theorem m0_412i : M0 412 [l0, l1, .val (.int z)] ((.int v) :: st) H Q = M0 413 [l0, l1, .val (.int v)] st H Q := w_st (i := 2) (p := isI) (dc (.istore_n 2, 1)) rfl rfl rfl rfl rfl rfl
theorem m0_413 : M0 413 [l0, l1, .val (.int v)] st H Q = M0 414 [l0, l1, .val (.int v)] (.int v :: st) H Q := w_x (dc (.iload_n 2, 1)) rfl
theorem m0_414 : M0 414 ls st H Q = M0 416 ls (.int 32 :: st) H Q := w_con (dc (.bipush 32, 2)) rfl (by decide)
theorem m0_416 : M0 416 ls (.int y :: .int x :: st) H Q = if y < x then M0 419 ls st H Q else M0 422 ls st H Q := w_icmpN (dc (.if_icmp .le 6, 3)) (i_le x y) rfl
theorem m0_419 : M0 419 ls st H Q = M0 421 ls (.int 32 :: st) H Q := w_con (dc (.bipush 32, 2)) rfl (by decide)
theorem m0_421i : M0 421 [l0, l1, .val (.int z)] ((.int v) :: st) H Q = M0 422 [l0, l1, .val (.int v)] st H Q := w_st (i := 2) (p := isI) (dc (.istore_n 2, 1)) rfl rfl rfl rfl rfl rfl
theorem m0_422 : M0 422 [.val (.ref r), l1, l2] st H Q = M0 423 [.val (.ref r), l1, l2] (.ref r :: st) H Q := w_x (dc (.aload_n 0, 1)) rfl
theorem m0_423 : M0 423 [l0, l1, .val (.int v)] st H Q = M0 424 [l0, l1, .val (.int v)] (.int v :: st) H Q := w_x (dc (.iload_n 2, 1)) rfl
theorem pf0_179 : pfR tables_1 y0.cls y0.name 179 = some ("MacroAssembler", 55, .int) := by decide +kernel
theorem m0_424 : M0 424 ls (.int v :: .ref b :: st) (put b e s A L B g) Q = M0 427 ls st (put b e (ou s 21 v) A L B g) Q := w_put (dc (.putfield 179, 3)) pf0_179 put_o (Nat.zero_le _) (by show 55 < 90; omega) rfl put_s21
theorem m0_427 : M0 427 ls [] H Q = Q none H := w_vret (dc (.return_, 1)) rfl
theorem m1_0 : M1 0 [l0, l1, l2, .unset, .unset, l5] st H Q = M1 5 [l0, l1, l2, .val (.int 0), .val (.int 0), l5] st H Q := (w_ki 0 (dc (.iconst 0, 1)) rfl).trans ((w_st (i := 3) (p := isI) (dc (.istore_n 3, 1)) rfl rfl rfl rfl rfl rfl).trans ((w_ki 0 (dc (.iconst 0, 1)) rfl).trans (w_st (i := 4) (p := isI) (dc (.istore 4, 2)) rfl rfl rfl rfl rfl rfl)))
theorem m1_5 : M1 5 [l0, l1, l2, l3, .val (.int v4), l5] st H Q = if v4 < 8 then M1 12 [l0, l1, l2, l3, .val (.int v4), l5] st H Q else M1 49 [l0, l1, l2, l3, .val (.int v4), l5] st H Q := (w_x (dc (.iload 4, 2)) rfl).trans ((w_ki 8 (dc (.bipush 8, 2)) rfl).trans (w_icmpN (dc (.if_icmp .ge 40, 3)) (i_ge v4 8) rfl))
theorem m1_12 : M1 12 [.val (.ref b), .val (.long w1), l2, l3, .val (.int v4), l5] st H Q = M1 16 [.val (.ref b), .val (.long w1), l2, l3, .val (.int v4), l5] (.int v4 :: .long w1 :: .ref b :: st) H Q := (w_x (dc (.aload_n 0, 1)) rfl).trans ((w_x (dc (.lload_n 1, 1)) rfl).trans (w_x (dc (.iload 4, 2)) rfl))
theorem cr1_192 : vR tables_1 dn y1 192 = some (true, y2, prog_1_method_19_code, 4, (some .int), 2, 2) := pR_of (cR_of (by decide +kernel) rc_2 dn_2 dn_1 (sig := ⟨[.long, .int], some .int⟩) (by decide +kernel) (by decide +kernel) rfl rfl) (by decide +kernel) (by decide +kernel)
theorem m1_16 (a0 : Int64) (a1 : Int32) : M1 16 ls [.int a1, .long a0, .ref b] (put b e s A L B g) Q = M2 0 [.val (.ref b), .val (.long a0), .second, .val (.int a1)] [] (put b e s A L B g) (fun v H1 => M1 19 ls (v.toList ++ []) H1 Q) := w_virt (as := [.int a1, .long a0]) (rest := []) (a := b) (dc (.invokevirtual 192, 3)) cr1_192 put_o rfl rfl (Nat.le_of_ble_eq_true rfl) (by show 4 ≤ 4; omega) rfl
theorem m1_19u : M1 19 [l0, l1, l2, l3, l4, .unset] ((.int v) :: st) H Q = M1 21 [l0, l1, l2, l3, l4, .val (.int v)] st H Q := w_st (i := 5) (p := isI) (dc (.istore 5, 2)) rfl rfl rfl rfl rfl rfl
theorem m1_19i : M1 19 [l0, l1, l2, l3, l4, .val (.int z)] ((.int v) :: st) H Q = M1 21 [l0, l1, l2, l3, l4, .val (.int v)] st H Q := w_st (i := 5) (p := isI) (dc (.istore 5, 2)) rfl rfl rfl rfl rfl rfl
theorem m1_21 : M1 21 [l0, l1, l2, l3, l4, .val (.int v5)] st H Q = if v5 = 0 then M1 26 [l0, l1, l2, l3, l4, .val (.int v5)] st H Q else M1 29 [l0, l1, l2, l3, l4, .val (.int v5)] st H Q := (w_x (dc (.iload 5, 2)) rfl).trans (w_ifN (dc (.ifCond .ne 6, 3)) (z_ne v5) rfl)
theorem m1_26 : M1 26 ls st H Q = M1 49 ls st H Q := w_x (dc (.goto 23, 3)) rfl
theorem m1_29 : M1 29 [.val (.ref b), l1, l2, l3, l4, .val (.int v5)] st H Q = M1 32 [.val (.ref b), l1, l2, l3, l4, .val (.int v5)] (.int v5 :: .ref b :: st) H Q := (w_x (dc (.aload_n 0, 1)) rfl).trans (w_x (dc (.iload 5, 2)) rfl)
theorem cr1_182 : vR tables_1 dn y1 182 = some (true, y3, prog_1_method_18_code, 2, (some .boolean), 1, 4) := pR_of (cR_of (by decide +kernel) rc_3 dn_3 dn_1 (sig := ⟨[.int], some .boolean⟩) (by decide +kernel) (by decide +kernel) rfl rfl) (by decide +kernel) (by decide +kernel)
theorem m1_32 (a0 : Int32) : M1 32 ls [.int a0, .ref b] (put b e s A L B g) Q = M3 0 [.val (.ref b), .val (.int a0)] [] (put b e s A L B g) (fun v H1 => M1 35 ls (v.toList ++ []) H1 Q) := w_virt (as := [.int a0]) (rest := []) (a := b) (dc (.invokevirtual 182, 3)) cr1_182 put_o rfl rfl (Nat.le_of_ble_eq_true rfl) (by show 2 ≤ 2; omega) rfl
theorem m1_35 : M1 35 ls (.int x :: st) H Q = if x = 0 then M1 38 ls st H Q else M1 40 ls st H Q := w_ifN (dc (.ifCond .ne 5, 3)) (z_ne x) rfl
theorem m1_40 : M1 40 [l0, l1, l2, .val (.int v3), .val (.int v4), l5] st H Q = M1 5 [l0, l1, l2, .val (.int (v3 + 1)), .val (.int (v4 + 1)), l5] st H Q := (w_iinc (dc (.iinc 3 1, 3)) rfl (by decide) rfl).trans ((w_iinc (dc (.iinc 4 1, 3)) rfl (by decide) rfl).trans (w_x (dc (.goto (-41), 3)) rfl))
theorem m1_49 : M1 49 [.val (.ref b), l1, l2, .val (.int v3), l4, l5] st (put b e s A L B g) Q = if 640 < (((s 22) + v3)) then M1 61 [.val (.ref b), l1, l2, .val (.int v3), l4, l5] st (put b e s A L B g) Q else M1 63 [.val (.ref b), l1, l2, .val (.int v3), l4, l5] st (put b e s A L B g) Q := (w_x (dc (.aload_n 0, 1)) rfl).trans ((w_get (dc (.getfield 186, 3)) gf_186 put_o rfl).trans ((w_x (dc (.iload_n 3, 1)) rfl).trans ((w_x (dc (.iadd, 1)) rfl).trans ((w_ki 640 (dc (.sipush 640, 3)) rfl).trans (w_icmpN (dc (.if_icmp .le 5, 3)) (i_le (((s 22) + v3)) 640) rfl)))))
theorem m1_63 : M1 63 [l0, l1, l2, l3, .val (.int z), l5] st H Q = M1 66 [l0, l1, l2, l3, .val (.int 0), l5] st H Q := (w_ki 0 (dc (.iconst 0, 1)) rfl).trans (w_st (i := 4) (p := isI) (dc (.istore 4, 2)) rfl rfl rfl rfl rfl rfl)
theorem m1_66 : M1 66 [l0, l1, l2, .val (.int v3), .val (.int v4), l5] st H Q = if v4 < v3 then M1 72 [l0, l1, l2, .val (.int v3), .val (.int v4), l5] st H Q else M1 115 [l0, l1, l2, .val (.int v3), .val (.int v4), l5] st H Q := (w_x (dc (.iload 4, 2)) rfl).trans ((w_x (dc (.iload_n 3, 1)) rfl).trans (w_icmpN (dc (.if_icmp .ge 46, 3)) (i_ge v4 v3) rfl))
theorem m1_72 : M1 72 [.val (.ref b), l1, l2, l3, l4, l5] st (put b e s A L B g) Q = if (s 22) < 640 then M1 82 [.val (.ref b), l1, l2, l3, l4, l5] st (put b e s A L B g) Q else M1 115 [.val (.ref b), l1, l2, l3, l4, l5] st (put b e s A L B g) Q := (w_x (dc (.aload_n 0, 1)) rfl).trans ((w_get (dc (.getfield 186, 3)) gf_186 put_o rfl).trans ((w_ki 640 (dc (.sipush 640, 3)) rfl).trans (w_icmpN (dc (.if_icmp .ge 36, 3)) (i_ge (s 22) 640) rfl)))
theorem m1_82 : M1 82 [.val (.ref b), .val (.long w1), l2, l3, .val (.int v4), l5] st (put b e s A L B g) Q = M1 94 [.val (.ref b), .val (.long w1), l2, l3, .val (.int v4), l5] (.int v4 :: .long w1 :: .ref b :: .int (s 22) :: .ref (b + 1) :: st) (put b e s A L B g) Q := (w_x (dc (.aload_n 0, 1)) rfl).trans ((w_get (dc (.getfield 73, 3)) gf_73 put_o rfl).trans ((w_x (dc (.aload_n 0, 1)) rfl).trans ((w_get (dc (.getfield 186, 3)) gf_186 put_o rfl).trans ((w_x (dc (.aload_n 0, 1)) rfl).trans ((w_x (dc (.lload_n 1, 1)) rfl).trans (w_x (dc (.iload 4, 2)) rfl))))))
theorem m1_94 (a0 : Int64) (a1 : Int32) (u0 : Int32) (u1 : Nat) : M1 94 ls [.int a1, .long a0, .ref b, .int u0, .ref u1] (put b e s A L B g) Q = M2 0 [.val (.ref b), .val (.long a0), .second, .val (.int a1)] [] (put b e s A L B g) (fun v H1 => M1 97 ls (v.toList ++ [.int u0, .ref u1]) H1 Q) := w_virt (as := [.int a1, .long a0]) (rest := [.int u0, .ref u1]) (a := b) (dc (.invokevirtual 192, 3)) cr1_192 put_o rfl rfl (Nat.le_of_ble_eq_true rfl) (by show 4 ≤ 4; omega) rfl
theorem m1_97 : M1 97 ls (.int x :: st) H Q = M1 98 ls (.int (x.toUInt32.toUInt16.toUInt32.toInt32) :: st) H Q := w_x (dc (.i2c, 1)) rfl
theorem m1_98  : M1 98 ls (.int v :: .int j :: .ref (b + 1) :: st) (put b e s A L B g) Q = (inB j (A 0) ∧ M1 99 ls st (put b e s (ou A 0 (setA (A 0) j (nar .char v))) L B g) Q) := w_ist (dc (.castore, 1)) rfl put_a0 (Nat.zero_le _) rfl put_w0
theorem pf1_186 : pfR tables_1 y1.cls y1.name 186 = some ("MacroAssembler", 56, .int) := by decide +kernel
theorem m1_99 : M1 99 [.val (.ref b), l1, l2, l3, l4, l5] st (put b e s A L B g) Q = M1 109 [.val (.ref b), l1, l2, l3, l4, l5] st (put b e (ou s 22 (((s 22) + 1))) A L B g) Q := (w_x (dc (.aload_n 0, 1)) rfl).trans ((w_x (dc (.dup, 1)) rfl).trans ((w_get (dc (.getfield 186, 3)) gf_186 put_o rfl).trans ((w_ki 1 (dc (.iconst 1, 1)) rfl).trans ((w_x (dc (.iadd, 1)) rfl).trans (w_put (dc (.putfield 186, 3)) pf1_186 put_o (Nat.zero_le _) (by show 56 < 90; omega) rfl put_s22)))))
theorem m1_109 : M1 109 [l0, l1, l2, l3, .val (.int v4), l5] st H Q = M1 66 [l0, l1, l2, l3, .val (.int (v4 + 1)), l5] st H Q := (w_iinc (dc (.iinc 4 1, 3)) rfl (by decide) rfl).trans (w_x (dc (.goto (-46), 3)) rfl)
theorem m1_115 : M1 115 [l0, l1, l2, .val (.int v3), l4, l5] st H Q = if 0 < v3 then M1 119 [l0, l1, l2, .val (.int v3), l4, l5] st H Q else M1 123 [l0, l1, l2, .val (.int v3), l4, l5] st H Q := (w_x (dc (.iload_n 3, 1)) rfl).trans (w_ifN (dc (.ifCond .le 7, 3)) (z_le v3) rfl)
theorem m1_119 : M1 119 [.val (.ref r), l1, l2, l3, l4, l5] st H Q = M1 120 [.val (.ref r), l1, l2, l3, l4, l5] (.ref r :: st) H Q := w_x (dc (.aload_n 0, 1)) rfl
theorem cr1_189 : vR tables_1 dn y1 189 = some (true, y4, prog_1_method_20_code, 1, none, 0, 5) := pR_of (cR_of (by decide +kernel) rc_4 dn_4 dn_1 (sig := ⟨[], none⟩) (by decide +kernel) (by decide +kernel) rfl rfl) (by decide +kernel) (by decide +kernel)
theorem m1_120 : M1 120 ls [.ref b] (put b e s A L B g) Q = M4 0 [.val (.ref b)] [] (put b e s A L B g) (fun v H1 => M1 123 ls (v.toList ++ []) H1 Q) := w_virt (as := []) (rest := []) (a := b) (dc (.invokevirtual 189, 3)) cr1_189 put_o rfl rfl (Nat.le_of_ble_eq_true rfl) (by show 1 ≤ 1; omega) rfl
theorem m1_123 : M1 123 [l0, l1, l2, .val (.int v), l4, l5] st H Q = M1 124 [l0, l1, l2, .val (.int v), l4, l5] (.int v :: st) H Q := w_x (dc (.iload_n 3, 1)) rfl
theorem m1_124 : M1 124 ls (.int z :: st) H Q = Q (some (.int z)) H := w_iret (dc (.ireturn, 1)) rfl
theorem m2_0 : M2 0 [l0, .val (.long w1), l2, .val (.int v3)] st H Q = M2 11 [l0, .val (.long w1), l2, .val (.int v3)] (.int ((((XT.ushrL w1 (8 * v3))) &&& 255)).toInt32 :: st) H Q := (w_x (dc (.lload_n 1, 1)) rfl).trans ((w_ki 8 (dc (.bipush 8, 2)) rfl).trans ((w_x (dc (.iload_n 3, 1)) rfl).trans ((w_x (dc (.imul, 1)) rfl).trans ((w_x (dc (.lushr, 1)) rfl).trans ((w_ldc2 (v := 255) (dc (.ldc2_w 266, 3)) (by decide +kernel)).trans ((w_x (dc (.land, 1)) rfl).trans (w_x (dc (.l2i, 1)) rfl)))))))
theorem m2_11 : M2 11 ls (.int z :: st) H Q = Q (some (.int z)) H := w_iret (dc (.ireturn, 1)) rfl
theorem m3_0 : M3 0 [l0, .val (.int v1)] st H Q = if v1 = 10 then M3 18 [l0, .val (.int v1)] st H Q else M3 6 [l0, .val (.int v1)] st H Q := (w_x (dc (.iload_n 1, 1)) rfl).trans ((w_ki 10 (dc (.bipush 10, 2)) rfl).trans (w_icmp (dc (.if_icmp .eq 15, 3)) (i_eq v1 10) rfl))
theorem m3_6 : M3 6 [l0, .val (.int v1)] st H Q = if v1 < 32 then M3 22 [l0, .val (.int v1)] st H Q else M3 12 [l0, .val (.int v1)] st H Q := (w_x (dc (.iload_n 1, 1)) rfl).trans ((w_ki 32 (dc (.bipush 32, 2)) rfl).trans (w_icmp (dc (.if_icmp .lt 13, 3)) (i_lt v1 32) rfl))
theorem m3_12 : M3 12 [l0, .val (.int v1)] st H Q = if 126 < v1 then M3 22 [l0, .val (.int v1)] st H Q else M3 18 [l0, .val (.int v1)] st H Q := (w_x (dc (.iload_n 1, 1)) rfl).trans ((w_ki 126 (dc (.bipush 126, 2)) rfl).trans (w_icmp (dc (.if_icmp .gt 7, 3)) (i_gt v1 126) rfl))
theorem m3_18 : M3 18 [l0, l1] st H Q = M3 23 [l0, l1] (.int 1 :: st) H Q := (w_ki 1 (dc (.iconst 1, 1)) rfl).trans (w_x (dc (.goto 4, 3)) rfl)
theorem m3_23 : M3 23 ls (.int z :: st) H Q = Q (some (.int (nar .boolean z))) H := w_iretN (dc (.ireturn, 1)) rfl (by simp)
theorem pf4_221 : pfR tables_1 y4.cls y4.name 221 = some ("MacroAssembler", 57, .int) := by decide +kernel
theorem m4_0 : M4 0 [.val (.ref b)] st (put b e s A L B g) Q = M4 5 [.val (.ref b)] st (put b e (ou s 24 0) A L B g) Q := (w_x (dc (.aload_n 0, 1)) rfl).trans ((w_ki 0 (dc (.iconst 0, 1)) rfl).trans (w_put (dc (.putfield 221, 3)) pf4_221 put_o (Nat.zero_le _) (by show 57 < 90; omega) rfl put_s24))
theorem pf4_227 : pfR tables_1 y4.cls y4.name 227 = some ("MacroAssembler", 58, .int) := by decide +kernel
theorem m4_5 : M4 5 [.val (.ref b)] st (put b e s A L B g) Q = M4 10 [.val (.ref b)] st (put b e (ou s 26 0) A L B g) Q := (w_x (dc (.aload_n 0, 1)) rfl).trans ((w_ki 0 (dc (.iconst 0, 1)) rfl).trans (w_put (dc (.putfield 227, 3)) pf4_227 put_o (Nat.zero_le _) (by show 58 < 90; omega) rfl put_s26))
theorem pf4_230 : pfR tables_1 y4.cls y4.name 230 = some ("MacroAssembler", 59, .int) := by decide +kernel
theorem m4_10 : M4 10 [.val (.ref b)] st (put b e s A L B g) Q = M4 15 [.val (.ref b)] st (put b e (ou s 28 0) A L B g) Q := (w_x (dc (.aload_n 0, 1)) rfl).trans ((w_ki 0 (dc (.iconst 0, 1)) rfl).trans (w_put (dc (.putfield 230, 3)) pf4_230 put_o (Nat.zero_le _) (by show 59 < 90; omega) rfl put_s28))
theorem pf4_233 : pfR tables_1 y4.cls y4.name 233 = some ("MacroAssembler", 60, .int) := by decide +kernel
theorem m4_15 : M4 15 [.val (.ref b)] st (put b e s A L B g) Q = M4 20 [.val (.ref b)] st (put b e (ou s 27 0) A L B g) Q := (w_x (dc (.aload_n 0, 1)) rfl).trans ((w_ki 0 (dc (.iconst 0, 1)) rfl).trans (w_put (dc (.putfield 233, 3)) pf4_233 put_o (Nat.zero_le _) (by show 60 < 90; omega) rfl put_s27))
theorem pf4_224 : pfR tables_1 y4.cls y4.name 224 = some ("MacroAssembler", 61, .int) := by decide +kernel
theorem m4_20 : M4 20 [.val (.ref b)] st (put b e s A L B g) Q = M4 25 [.val (.ref b)] st (put b e (ou s 25 0) A L B g) Q := (w_x (dc (.aload_n 0, 1)) rfl).trans ((w_ki 0 (dc (.iconst 0, 1)) rfl).trans (w_put (dc (.putfield 224, 3)) pf4_224 put_o (Nat.zero_le _) (by show 61 < 90; omega) rfl put_s25))
theorem pf4_236 : pfR tables_1 y4.cls y4.name 236 = some ("MacroAssembler", 62, .int) := by decide +kernel
theorem m4_25 : M4 25 [.val (.ref b)] st (put b e s A L B g) Q = M4 30 [.val (.ref b)] st (put b e (ou s 29 0) A L B g) Q := (w_x (dc (.aload_n 0, 1)) rfl).trans ((w_ki 0 (dc (.iconst 0, 1)) rfl).trans (w_put (dc (.putfield 236, 3)) pf4_236 put_o (Nat.zero_le _) (by show 62 < 90; omega) rfl put_s29))
theorem m4_30 : M4 30 ls [] H Q = Q none H := w_vret (dc (.return_, 1)) rfl
theorem m5_0 : M5 0 [.val (.ref r), l1] st H Q = M5 1 [.val (.ref r), l1] (.ref r :: st) H Q := w_x (dc (.aload_n 0, 1)) rfl
theorem cr5_196 : vR tables_1 dn y5 196 = some (true, y6, prog_1_method_38_code, 1, none, 0, 111) := pR_of (cR_of (by decide +kernel) rc_6 dn_6 dn_5 (sig := ⟨[], none⟩) (by decide +kernel) (by decide +kernel) rfl rfl) (by decide +kernel) (by decide +kernel)
theorem m5_1 : M5 1 ls [.ref b] (put b e s A L B g) Q = M6 0 [.val (.ref b)] [] (put b e s A L B g) (fun v H1 => M5 4 ls (v.toList ++ []) H1 Q) := w_virt (as := []) (rest := []) (a := b) (dc (.invokevirtual 196, 3)) cr5_196 put_o rfl rfl (Nat.le_of_ble_eq_true rfl) (by show 1 ≤ 1; omega) rfl
theorem m5_4 : M5 4 [l0, .unset] st H Q = M5 6 [l0, .val (.int 0)] st H Q := (w_ki 0 (dc (.iconst 0, 1)) rfl).trans (w_st (i := 1) (p := isI) (dc (.istore_n 1, 1)) rfl rfl rfl rfl rfl rfl)
theorem m5_6 : M5 6 [l0, .val (.int v1)] st H Q = if v1 < 4096 then M5 13 [l0, .val (.int v1)] st H Q else M5 37 [l0, .val (.int v1)] st H Q := (w_x (dc (.iload_n 1, 1)) rfl).trans ((w_ki 4096 (dc (.sipush 4096, 3)) rfl).trans (w_icmpN (dc (.if_icmp .ge 27, 3)) (i_ge v1 4096) rfl))
theorem m5_13 : M5 13 [.val (.ref b), l1] st (put b e s A L B g) Q = if (s 44) = 0 then M5 20 [.val (.ref b), l1] st (put b e s A L B g) Q else M5 37 [.val (.ref b), l1] st (put b e s A L B g) Q := (w_x (dc (.aload_n 0, 1)) rfl).trans ((w_get (dc (.getfield 199, 3)) gf_199 put_o rfl).trans (w_ifN (dc (.ifCond .ne 20, 3)) (z_ne (s 44)) rfl))
theorem m5_20 : M5 20 [.val (.ref b), l1] st (put b e s A L B g) Q = if (s 45) = 0 then M5 27 [.val (.ref b), l1] st (put b e s A L B g) Q else M5 37 [.val (.ref b), l1] st (put b e s A L B g) Q := (w_x (dc (.aload_n 0, 1)) rfl).trans ((w_get (dc (.getfield 203, 3)) gf_203 put_o rfl).trans (w_ifN (dc (.ifCond .ne 13, 3)) (z_ne (s 45)) rfl))
theorem m5_27 : M5 27 [.val (.ref r), l1] st H Q = M5 28 [.val (.ref r), l1] (.ref r :: st) H Q := w_x (dc (.aload_n 0, 1)) rfl
theorem cr5_206 : vR tables_1 dn y5 206 = some (true, y9, prog_1_method_41_code, 2, none, 0, 0) := pR_of (cR_of (by decide +kernel) rc_9 dn_9 dn_5 (sig := ⟨[], none⟩) (by decide +kernel) (by decide +kernel) rfl rfl) (by decide +kernel) (by decide +kernel)
theorem m5_28 : M5 28 ls [.ref b] (put b e s A L B g) Q = M9 0 [.val (.ref b), .unset] [] (put b e s A L B g) (fun v H1 => M5 31 ls (v.toList ++ []) H1 Q) := w_virt (as := []) (rest := []) (a := b) (dc (.invokevirtual 206, 3)) cr5_206 put_o rfl rfl (Nat.le_of_ble_eq_true rfl) (by show 1 ≤ 2; omega) rfl
theorem m5_31 : M5 31 [l0, .val (.int v1)] st H Q = M5 6 [l0, .val (.int (v1 + 1))] st H Q := (w_iinc (dc (.iinc 1 1, 3)) rfl (by decide) rfl).trans (w_x (dc (.goto (-28), 3)) rfl)
theorem m5_37 : M5 37 [.val (.ref b), l1] st (put b e s A L B g) Q = if (s 44) = 0 then M5 44 [.val (.ref b), l1] st (put b e s A L B g) Q else M5 65 [.val (.ref b), l1] st (put b e s A L B g) Q := (w_x (dc (.aload_n 0, 1)) rfl).trans ((w_get (dc (.getfield 199, 3)) gf_199 put_o rfl).trans (w_ifN (dc (.ifCond .ne 24, 3)) (z_ne (s 44)) rfl))
theorem m5_44 : M5 44 [.val (.ref b), l1] st (put b e s A L B g) Q = if (s 45) = 0 then M5 51 [.val (.ref b), l1] st (put b e s A L B g) Q else M5 65 [.val (.ref b), l1] st (put b e s A L B g) Q := (w_x (dc (.aload_n 0, 1)) rfl).trans ((w_get (dc (.getfield 203, 3)) gf_203 put_o rfl).trans (w_ifN (dc (.ifCond .ne 17, 3)) (z_ne (s 45)) rfl))
theorem m5_65 : M5 65 [.val (.ref b), l1] st (put b e s A L B g) Q = if (s 44) = 0 then M5 72 [.val (.ref b), l1] st (put b e s A L B g) Q else M5 76 [.val (.ref b), l1] st (put b e s A L B g) Q := (w_x (dc (.aload_n 0, 1)) rfl).trans ((w_get (dc (.getfield 199, 3)) gf_199 put_o rfl).trans (w_ifN (dc (.ifCond .ne 7, 3)) (z_ne (s 44)) rfl))
theorem m5_72 : M5 72 [.val (.ref r), l1] st H Q = M5 73 [.val (.ref r), l1] (.ref r :: st) H Q := w_x (dc (.aload_n 0, 1)) rfl
theorem cr5_218 : vR tables_1 dn y5 218 = some (true, y53, prog_1_method_82_code, 5, none, 0, 106) := pR_of (cR_of (by decide +kernel) rc_53 dn_53 dn_5 (sig := ⟨[], none⟩) (by decide +kernel) (by decide +kernel) rfl rfl) (by decide +kernel) (by decide +kernel)
theorem m5_73 : M5 73 ls [.ref b] (put b e s A L B g) Q = M53 0 [.val (.ref b), .unset, .unset, .unset, .unset] [] (put b e s A L B g) (fun v H1 => M5 76 ls (v.toList ++ []) H1 Q) := w_virt (as := []) (rest := []) (a := b) (dc (.invokevirtual 218, 3)) cr5_218 put_o rfl rfl (Nat.le_of_ble_eq_true rfl) (by show 1 ≤ 5; omega) rfl
theorem m5_76 : M5 76 [.val (.ref b), l1] st (put b e s A L B g) Q = if (s 44) = 0 then M5 119 [.val (.ref b), l1] st (put b e s A L B g) Q else M5 83 [.val (.ref b), l1] st (put b e s A L B g) Q := (w_x (dc (.aload_n 0, 1)) rfl).trans ((w_get (dc (.getfield 199, 3)) gf_199 put_o rfl).trans (w_if (dc (.ifCond .eq 39, 3)) (z_eq (s 44)) rfl))
theorem pf5_221 : pfR tables_1 y5.cls y5.name 221 = some ("MacroAssembler", 57, .int) := by decide +kernel
theorem m5_119 : M5 119 [.val (.ref b), l1] st (put b e s A L B g) Q = M5 124 [.val (.ref b), l1] st (put b e (ou s 24 1) A L B g) Q := (w_x (dc (.aload_n 0, 1)) rfl).trans ((w_ki 1 (dc (.iconst 1, 1)) rfl).trans (w_put (dc (.putfield 221, 3)) pf5_221 put_o (Nat.zero_le _) (by show 57 < 90; omega) rfl put_s24))
theorem pf5_224 : pfR tables_1 y5.cls y5.name 224 = some ("MacroAssembler", 61, .int) := by decide +kernel
theorem m5_124 : M5 124 [.val (.ref b), l1] st (put b e s A L B g) Q = M5 129 [.val (.ref b), l1] st (put b e (ou s 25 0) A L B g) Q := (w_x (dc (.aload_n 0, 1)) rfl).trans ((w_ki 0 (dc (.iconst 0, 1)) rfl).trans (w_put (dc (.putfield 224, 3)) pf5_224 put_o (Nat.zero_le _) (by show 61 < 90; omega) rfl put_s25))
theorem pf5_227 : pfR tables_1 y5.cls y5.name 227 = some ("MacroAssembler", 58, .int) := by decide +kernel
theorem m5_129 : M5 129 [.val (.ref b), l1] st (put b e s A L B g) Q = M5 137 [.val (.ref b), l1] st (put b e (ou s 26 (s 41)) A L B g) Q := (w_x (dc (.aload_n 0, 1)) rfl).trans ((w_x (dc (.aload_n 0, 1)) rfl).trans ((w_get (dc (.getfield 239, 3)) gf_239 put_o rfl).trans (w_put (dc (.putfield 227, 3)) pf5_227 put_o (Nat.zero_le _) (by show 58 < 90; omega) rfl put_s26)))
theorem pf5_233 : pfR tables_1 y5.cls y5.name 233 = some ("MacroAssembler", 60, .int) := by decide +kernel
theorem m5_137 : M5 137 [.val (.ref b), l1] st (put b e s A L B g) Q = M5 145 [.val (.ref b), l1] st (put b e (ou s 27 (s 42)) A L B g) Q := (w_x (dc (.aload_n 0, 1)) rfl).trans ((w_x (dc (.aload_n 0, 1)) rfl).trans ((w_get (dc (.getfield 242, 3)) gf_242 put_o rfl).trans (w_put (dc (.putfield 233, 3)) pf5_233 put_o (Nat.zero_le _) (by show 60 < 90; omega) rfl put_s27)))
theorem m5_145 : M5 145 [.val (.ref r), l1] st H Q = M5 146 [.val (.ref r), l1] (.ref r :: st) H Q := w_x (dc (.aload_n 0, 1)) rfl
theorem cr5_245 : vR tables_1 dn y5 245 = some (true, y54, prog_1_method_87_code, 3, none, 0, 59) := pR_of (cR_of (by decide +kernel) rc_54 dn_54 dn_5 (sig := ⟨[], none⟩) (by decide +kernel) (by decide +kernel) rfl rfl) (by decide +kernel) (by decide +kernel)
theorem m5_146 : M5 146 ls [.ref b] (put b e s A L B g) Q = M54 0 [.val (.ref b), .unset, .unset] [] (put b e s A L B g) (fun v H1 => M5 149 ls (v.toList ++ []) H1 Q) := w_virt (as := []) (rest := []) (a := b) (dc (.invokevirtual 245, 3)) cr5_245 put_o rfl rfl (Nat.le_of_ble_eq_true rfl) (by show 1 ≤ 3; omega) rfl
theorem m5_149 : M5 149 [.val (.ref b), l1] st (put b e s A L B g) Q = M5 153 [.val (.ref b), l1] (.int (s 24) :: st) (put b e s A L B g) Q := (w_x (dc (.aload_n 0, 1)) rfl).trans (w_get (dc (.getfield 221, 3)) gf_221 put_o rfl)
theorem m5_153 : M5 153 ls (.int z :: st) H Q = Q (some (.int z)) H := w_iret (dc (.ireturn, 1)) rfl
theorem pf6_230 : pfR tables_1 y6.cls y6.name 230 = some ("MacroAssembler", 59, .int) := by decide +kernel
theorem m6_0 : M6 0 [.val (.ref b)] st (put b e s A L B g) Q = M6 5 [.val (.ref b)] st (put b e (ou s 28 0) A L B g) Q := (w_x (dc (.aload_n 0, 1)) rfl).trans ((w_ki 0 (dc (.iconst 0, 1)) rfl).trans (w_put (dc (.putfield 230, 3)) pf6_230 put_o (Nat.zero_le _) (by show 59 < 90; omega) rfl put_s28))
theorem pf6_310 : pfR tables_1 y6.cls y6.name 310 = some ("MacroAssembler", 63, .int) := by decide +kernel
theorem m6_5 : M6 5 [.val (.ref b)] st (put b e s A L B g) Q = M6 10 [.val (.ref b)] st (put b e (ou s 31 0) A L B g) Q := (w_x (dc (.aload_n 0, 1)) rfl).trans ((w_ki 0 (dc (.iconst 0, 1)) rfl).trans (w_put (dc (.putfield 310, 3)) pf6_310 put_o (Nat.zero_le _) (by show 63 < 90; omega) rfl put_s31))
theorem pf6_316 : pfR tables_1 y6.cls y6.name 316 = some ("MacroAssembler", 64, .int) := by decide +kernel
theorem m6_10 : M6 10 [.val (.ref b)] st (put b e s A L B g) Q = M6 15 [.val (.ref b)] st (put b e (ou s 33 0) A L B g) Q := (w_x (dc (.aload_n 0, 1)) rfl).trans ((w_ki 0 (dc (.iconst 0, 1)) rfl).trans (w_put (dc (.putfield 316, 3)) pf6_316 put_o (Nat.zero_le _) (by show 64 < 90; omega) rfl put_s33))
theorem pf6_239 : pfR tables_1 y6.cls y6.name 239 = some ("MacroAssembler", 65, .int) := by decide +kernel
theorem m6_15 : M6 15 [.val (.ref b)] st (put b e s A L B g) Q = M6 20 [.val (.ref b)] st (put b e (ou s 41 0) A L B g) Q := (w_x (dc (.aload_n 0, 1)) rfl).trans ((w_ki 0 (dc (.iconst 0, 1)) rfl).trans (w_put (dc (.putfield 239, 3)) pf6_239 put_o (Nat.zero_le _) (by show 65 < 90; omega) rfl put_s41))
theorem pf6_242 : pfR tables_1 y6.cls y6.name 242 = some ("MacroAssembler", 66, .int) := by decide +kernel
theorem m6_20 : M6 20 [.val (.ref b)] st (put b e s A L B g) Q = M6 25 [.val (.ref b)] st (put b e (ou s 42 0) A L B g) Q := (w_x (dc (.aload_n 0, 1)) rfl).trans ((w_ki 0 (dc (.iconst 0, 1)) rfl).trans (w_put (dc (.putfield 242, 3)) pf6_242 put_o (Nat.zero_le _) (by show 66 < 90; omega) rfl put_s42))
theorem pf6_319 : pfR tables_1 y6.cls y6.name 319 = some ("MacroAssembler", 67, .int) := by decide +kernel
theorem m6_25 : M6 25 [.val (.ref b)] st (put b e s A L B g) Q = M6 30 [.val (.ref b)] st (put b e (ou s 40 0) A L B g) Q := (w_x (dc (.aload_n 0, 1)) rfl).trans ((w_ki 0 (dc (.iconst 0, 1)) rfl).trans (w_put (dc (.putfield 319, 3)) pf6_319 put_o (Nat.zero_le _) (by show 67 < 90; omega) rfl put_s40))
theorem pf6_322 : pfR tables_1 y6.cls y6.name 322 = some ("MacroAssembler", 68, .int) := by decide +kernel
theorem m6_30 : M6 30 [.val (.ref b)] st (put b e s A L B g) Q = M6 35 [.val (.ref b)] st (put b e (ou s 54 0) A L B g) Q := (w_x (dc (.aload_n 0, 1)) rfl).trans ((w_ki 0 (dc (.iconst 0, 1)) rfl).trans (w_put (dc (.putfield 322, 3)) pf6_322 put_o (Nat.zero_le _) (by show 68 < 90; omega) rfl put_s54))
theorem pf6_325 : pfR tables_1 y6.cls y6.name 325 = some ("MacroAssembler", 69, .int) := by decide +kernel
theorem m6_35 : M6 35 [.val (.ref b)] st (put b e s A L B g) Q = M6 40 [.val (.ref b)] st (put b e (ou s 37 0) A L B g) Q := (w_x (dc (.aload_n 0, 1)) rfl).trans ((w_ki 0 (dc (.iconst 0, 1)) rfl).trans (w_put (dc (.putfield 325, 3)) pf6_325 put_o (Nat.zero_le _) (by show 69 < 90; omega) rfl put_s37))
theorem pf6_328 : pfR tables_1 y6.cls y6.name 328 = some ("MacroAssembler", 70, .int) := by decide +kernel
theorem m6_40 : M6 40 [.val (.ref b)] st (put b e s A L B g) Q = M6 45 [.val (.ref b)] st (put b e (ou s 38 0) A L B g) Q := (w_x (dc (.aload_n 0, 1)) rfl).trans ((w_ki 0 (dc (.iconst 0, 1)) rfl).trans (w_put (dc (.putfield 328, 3)) pf6_328 put_o (Nat.zero_le _) (by show 70 < 90; omega) rfl put_s38))
theorem pf6_331 : pfR tables_1 y6.cls y6.name 331 = some ("MacroAssembler", 71, .int) := by decide +kernel
theorem m6_45 : M6 45 [.val (.ref b)] st (put b e s A L B g) Q = M6 50 [.val (.ref b)] st (put b e (ou s 39 0) A L B g) Q := (w_x (dc (.aload_n 0, 1)) rfl).trans ((w_ki 0 (dc (.iconst 0, 1)) rfl).trans (w_put (dc (.putfield 331, 3)) pf6_331 put_o (Nat.zero_le _) (by show 71 < 90; omega) rfl put_s39))
theorem pf6_334 : pfR tables_1 y6.cls y6.name 334 = some ("MacroAssembler", 72, .int) := by decide +kernel
theorem m6_50 : M6 50 [.val (.ref b)] st (put b e s A L B g) Q = M6 55 [.val (.ref b)] st (put b e (ou s 32 0) A L B g) Q := (w_x (dc (.aload_n 0, 1)) rfl).trans ((w_ki 0 (dc (.iconst 0, 1)) rfl).trans (w_put (dc (.putfield 334, 3)) pf6_334 put_o (Nat.zero_le _) (by show 72 < 90; omega) rfl put_s32))
theorem pf6_199 : pfR tables_1 y6.cls y6.name 199 = some ("MacroAssembler", 73, .boolean) := by decide +kernel
theorem m6_55 : M6 55 [.val (.ref b)] st (put b e s A L B g) Q = M6 60 [.val (.ref b)] st (put b e (ou s 44 (nar .boolean 0)) A L B g) Q := (w_x (dc (.aload_n 0, 1)) rfl).trans ((w_ki 0 (dc (.iconst 0, 1)) rfl).trans (w_put (dc (.putfield 199, 3)) pf6_199 put_o (Nat.zero_le _) (by show 73 < 90; omega) rfl put_s44))
theorem pf6_203 : pfR tables_1 y6.cls y6.name 203 = some ("MacroAssembler", 74, .boolean) := by decide +kernel
theorem m6_60 : M6 60 [.val (.ref b)] st (put b e s A L B g) Q = M6 65 [.val (.ref b)] st (put b e (ou s 45 (nar .boolean 0)) A L B g) Q := (w_x (dc (.aload_n 0, 1)) rfl).trans ((w_ki 0 (dc (.iconst 0, 1)) rfl).trans (w_put (dc (.putfield 203, 3)) pf6_203 put_o (Nat.zero_le _) (by show 74 < 90; omega) rfl put_s45))
theorem pf6_212 : pfR tables_1 y6.cls y6.name 212 = some ("MacroAssembler", 75, .int) := by decide +kernel
theorem m6_65 : M6 65 [.val (.ref b)] st (put b e s A L B g) Q = M6 70 [.val (.ref b)] st (put b e (ou s 43 0) A L B g) Q := (w_x (dc (.aload_n 0, 1)) rfl).trans ((w_ki 0 (dc (.iconst 0, 1)) rfl).trans (w_put (dc (.putfield 212, 3)) pf6_212 put_o (Nat.zero_le _) (by show 75 < 90; omega) rfl put_s43))
theorem m6_70 : M6 70 [.val (.ref r)] st H Q = M6 71 [.val (.ref r)] (.ref r :: st) H Q := w_x (dc (.aload_n 0, 1)) rfl
theorem cr6_337 : vR tables_1 dn y6 337 = some (true, y7, prog_1_method_39_code, 3, none, 0, 0) := pR_of (cR_of (by decide +kernel) rc_7 dn_7 dn_6 (sig := ⟨[], none⟩) (by decide +kernel) (by decide +kernel) rfl rfl) (by decide +kernel) (by decide +kernel)
theorem m6_71 : M6 71 ls [.ref b] (put b e s A L B g) Q = M7 0 [.val (.ref b), .unset, .unset] [] (put b e s A L B g) (fun v H1 => M6 74 ls (v.toList ++ []) H1 Q) := w_virt (as := []) (rest := []) (a := b) (dc (.invokevirtual 337, 3)) cr6_337 put_o rfl rfl (Nat.le_of_ble_eq_true rfl) (by show 1 ≤ 3; omega) rfl
theorem m6_74 : M6 74 [.val (.ref b)] st H Q = M6 77 [.val (.ref b)] (.int 0 :: .int (-1) :: .ref b :: st) H Q := (w_x (dc (.aload_n 0, 1)) rfl).trans ((w_ki (-1) (dc (.iconst (-1), 1)) rfl).trans (w_ki 0 (dc (.iconst 0, 1)) rfl))
theorem cr6_340 : vR tables_1 dn y6 340 = some (true, y8, prog_1_method_40_code, 3, none, 2, 0) := pR_of (cR_of (by decide +kernel) rc_8 dn_8 dn_6 (sig := ⟨[.int, .int], none⟩) (by decide +kernel) (by decide +kernel) rfl rfl) (by decide +kernel) (by decide +kernel)
theorem m6_77 (a0 : Int32) (a1 : Int32) : M6 77 ls [.int a1, .int a0, .ref b] (put b e s A L B g) Q = M8 0 [.val (.ref b), .val (.int a0), .val (.int a1)] [] (put b e s A L B g) (fun v H1 => M6 80 ls (v.toList ++ []) H1 Q) := w_virt (as := [.int a1, .int a0]) (rest := []) (a := b) (dc (.invokevirtual 340, 3)) cr6_340 put_o rfl rfl (Nat.le_of_ble_eq_true rfl) (by show 3 ≤ 3; omega) rfl
theorem m6_80 : M6 80 ls [] H Q = Q none H := w_vret (dc (.return_, 1)) rfl
theorem pf7_209 : pfR tables_1 y7.cls y7.name 209 = some ("MacroAssembler", 76, .int) := by decide +kernel
theorem m7_0 : M7 0 [.val (.ref b), l1, l2] st (put b e s A L B g) Q = M7 5 [.val (.ref b), l1, l2] st (put b e (ou s 23 0) A L B g) Q := (w_x (dc (.aload_n 0, 1)) rfl).trans ((w_ki 0 (dc (.iconst 0, 1)) rfl).trans (w_put (dc (.putfield 209, 3)) pf7_209 put_o (Nat.zero_le _) (by show 76 < 90; omega) rfl put_s23))
theorem m7_5 : M7 5 [l0, .unset, .unset] st H Q = M7 9 [l0, .val (.int 0), .val (.int 0)] st H Q := (w_ki 0 (dc (.iconst 0, 1)) rfl).trans ((w_st (i := 1) (p := isI) (dc (.istore_n 1, 1)) rfl rfl rfl rfl rfl rfl).trans ((w_ki 0 (dc (.iconst 0, 1)) rfl).trans (w_st (i := 2) (p := isI) (dc (.istore_n 2, 1)) rfl rfl rfl rfl rfl rfl)))
theorem m7_9 : M7 9 [.val (.ref b), l1, .val (.int v2)] st (put b e s A L B g) Q = if v2 < (s 22) then M7 17 [.val (.ref b), l1, .val (.int v2)] st (put b e s A L B g) Q else M7 85 [.val (.ref b), l1, .val (.int v2)] st (put b e s A L B g) Q := (w_x (dc (.iload_n 2, 1)) rfl).trans ((w_x (dc (.aload_n 0, 1)) rfl).trans ((w_get (dc (.getfield 186, 3)) gf_186 put_o rfl).trans (w_icmpN (dc (.if_icmp .ge 71, 3)) (i_ge v2 (s 22)) rfl)))
theorem m7_17 : M7 17 [l0, l1, .val (.int v2)] st H Q = if v2 < 640 then M7 24 [l0, l1, .val (.int v2)] st H Q else M7 85 [l0, l1, .val (.int v2)] st H Q := (w_x (dc (.iload_n 2, 1)) rfl).trans ((w_ki 640 (dc (.sipush 640, 3)) rfl).trans (w_icmpN (dc (.if_icmp .ge 64, 3)) (i_ge v2 640) rfl))
theorem m7_24 : M7 24 [.val (.ref b), l1, .val (.int v2)] st (put b e s A L B g) Q = (inB v2 (A 0) ∧ M7 30 [.val (.ref b), l1, .val (.int v2)] (.int (getA (A 0) v2) :: st) (put b e s A L B g) Q) := (w_x (dc (.aload_n 0, 1)) rfl).trans ((w_get (dc (.getfield 73, 3)) gf_73 put_o rfl).trans ((w_x (dc (.iload_n 2, 1)) rfl).trans (w_ild (dc (.caload, 1)) rfl put_a0)))
theorem m7_30 : M7 30 ls st H Q = M7 32 ls (.int 10 :: st) H Q := w_con (dc (.bipush 10, 2)) rfl (by decide)
theorem m7_32 : M7 32 ls (.int y :: .int x :: st) H Q = if x = y then M7 35 ls st H Q else M7 79 ls st H Q := w_icmpN (dc (.if_icmp .ne 47, 3)) (i_ne x y) rfl
theorem m7_35 : M7 35 [.val (.ref b), l1, l2] st (put b e s A L B g) Q = if (s 23) < 640 then M7 45 [.val (.ref b), l1, l2] st (put b e s A L B g) Q else M7 79 [.val (.ref b), l1, l2] st (put b e s A L B g) Q := (w_x (dc (.aload_n 0, 1)) rfl).trans ((w_get (dc (.getfield 209, 3)) gf_209 put_o rfl).trans ((w_ki 640 (dc (.sipush 640, 3)) rfl).trans (w_icmpN (dc (.if_icmp .ge 37, 3)) (i_ge (s 23) 640) rfl)))
theorem m7_45 : M7 45 [.val (.ref b), .val (.int v1), l2] st (put b e s A L B g) Q = (inB (s 23) (A 1) ∧ M7 55 [.val (.ref b), .val (.int v1), l2] st (put b e s (ou A 1 (setA (A 1) (s 23) v1)) L B g) Q) := (w_x (dc (.aload_n 0, 1)) rfl).trans ((w_get (dc (.getfield 77, 3)) gf_77 put_o rfl).trans ((w_x (dc (.aload_n 0, 1)) rfl).trans ((w_get (dc (.getfield 209, 3)) gf_209 put_o rfl).trans ((w_x (dc (.iload_n 1, 1)) rfl).trans (w_ist (dc (.iastore, 1)) rfl put_a1 (Nat.zero_le _) rfl put_w1)))))
theorem m7_55 : M7 55 [.val (.ref b), l1, .val (.int v2)] st (put b e s A L B g) Q = (inB (s 23) (A 2) ∧ M7 65 [.val (.ref b), l1, .val (.int v2)] st (put b e s (ou A 2 (setA (A 2) (s 23) v2)) L B g) Q) := (w_x (dc (.aload_n 0, 1)) rfl).trans ((w_get (dc (.getfield 81, 3)) gf_81 put_o rfl).trans ((w_x (dc (.aload_n 0, 1)) rfl).trans ((w_get (dc (.getfield 209, 3)) gf_209 put_o rfl).trans ((w_x (dc (.iload_n 2, 1)) rfl).trans (w_ist (dc (.iastore, 1)) rfl put_a2 (Nat.zero_le _) rfl put_w2)))))
theorem m7_65 : M7 65 [.val (.ref b), l1, l2] st (put b e s A L B g) Q = M7 75 [.val (.ref b), l1, l2] st (put b e (ou s 23 (((s 23) + 1))) A L B g) Q := (w_x (dc (.aload_n 0, 1)) rfl).trans ((w_x (dc (.dup, 1)) rfl).trans ((w_get (dc (.getfield 209, 3)) gf_209 put_o rfl).trans ((w_ki 1 (dc (.iconst 1, 1)) rfl).trans ((w_x (dc (.iadd, 1)) rfl).trans (w_put (dc (.putfield 209, 3)) pf7_209 put_o (Nat.zero_le _) (by show 76 < 90; omega) rfl put_s23)))))
theorem m7_75 : M7 75 [l0, .val (.int z), .val (.int v2)] st H Q = M7 79 [l0, .val (.int (v2 + 1)), .val (.int v2)] st H Q := (w_x (dc (.iload_n 2, 1)) rfl).trans ((w_ki 1 (dc (.iconst 1, 1)) rfl).trans ((w_x (dc (.iadd, 1)) rfl).trans (w_st (i := 1) (p := isI) (dc (.istore_n 1, 1)) rfl rfl rfl rfl rfl rfl)))
theorem m7_79 : M7 79 [l0, l1, .val (.int v2)] st H Q = M7 9 [l0, l1, .val (.int (v2 + 1))] st H Q := (w_iinc (dc (.iinc 2 1, 3)) rfl (by decide) rfl).trans (w_x (dc (.goto (-73), 3)) rfl)
theorem m7_85 : M7 85 [.val (.ref b), .val (.int v1), l2] st (put b e s A L B g) Q = if v1 < (s 22) then M7 93 [.val (.ref b), .val (.int v1), l2] st (put b e s A L B g) Q else M7 136 [.val (.ref b), .val (.int v1), l2] st (put b e s A L B g) Q := (w_x (dc (.iload_n 1, 1)) rfl).trans ((w_x (dc (.aload_n 0, 1)) rfl).trans ((w_get (dc (.getfield 186, 3)) gf_186 put_o rfl).trans (w_icmpN (dc (.if_icmp .ge 46, 3)) (i_ge v1 (s 22)) rfl)))
theorem m7_93 : M7 93 [.val (.ref b), l1, l2] st (put b e s A L B g) Q = if (s 23) < 640 then M7 103 [.val (.ref b), l1, l2] st (put b e s A L B g) Q else M7 136 [.val (.ref b), l1, l2] st (put b e s A L B g) Q := (w_x (dc (.aload_n 0, 1)) rfl).trans ((w_get (dc (.getfield 209, 3)) gf_209 put_o rfl).trans ((w_ki 640 (dc (.sipush 640, 3)) rfl).trans (w_icmpN (dc (.if_icmp .ge 36, 3)) (i_ge (s 23) 640) rfl)))
theorem m7_103 : M7 103 [.val (.ref b), .val (.int v1), l2] st (put b e s A L B g) Q = (inB (s 23) (A 1) ∧ M7 113 [.val (.ref b), .val (.int v1), l2] st (put b e s (ou A 1 (setA (A 1) (s 23) v1)) L B g) Q) := (w_x (dc (.aload_n 0, 1)) rfl).trans ((w_get (dc (.getfield 77, 3)) gf_77 put_o rfl).trans ((w_x (dc (.aload_n 0, 1)) rfl).trans ((w_get (dc (.getfield 209, 3)) gf_209 put_o rfl).trans ((w_x (dc (.iload_n 1, 1)) rfl).trans (w_ist (dc (.iastore, 1)) rfl put_a1 (Nat.zero_le _) rfl put_w1)))))
theorem m7_113 : M7 113 [.val (.ref b), l1, l2] st (put b e s A L B g) Q = (inB (s 23) (A 2) ∧ M7 126 [.val (.ref b), l1, l2] st (put b e s (ou A 2 (setA (A 2) (s 23) (s 22))) L B g) Q) := (w_x (dc (.aload_n 0, 1)) rfl).trans ((w_get (dc (.getfield 81, 3)) gf_81 put_o rfl).trans ((w_x (dc (.aload_n 0, 1)) rfl).trans ((w_get (dc (.getfield 209, 3)) gf_209 put_o rfl).trans ((w_x (dc (.aload_n 0, 1)) rfl).trans ((w_get (dc (.getfield 186, 3)) gf_186 put_o rfl).trans (w_ist (dc (.iastore, 1)) rfl put_a2 (Nat.zero_le _) rfl put_w2))))))
theorem m7_126 : M7 126 [.val (.ref b), l1, l2] st (put b e s A L B g) Q = M7 136 [.val (.ref b), l1, l2] st (put b e (ou s 23 (((s 23) + 1))) A L B g) Q := (w_x (dc (.aload_n 0, 1)) rfl).trans ((w_x (dc (.dup, 1)) rfl).trans ((w_get (dc (.getfield 209, 3)) gf_209 put_o rfl).trans ((w_ki 1 (dc (.iconst 1, 1)) rfl).trans ((w_x (dc (.iadd, 1)) rfl).trans (w_put (dc (.putfield 209, 3)) pf7_209 put_o (Nat.zero_le _) (by show 76 < 90; omega) rfl put_s23)))))
theorem m7_136 : M7 136 ls [] H Q = Q none H := w_vret (dc (.return_, 1)) rfl
theorem pf8_344 : pfR tables_1 y8.cls y8.name 344 = some ("MacroAssembler", 77, .int) := by decide +kernel
theorem m8_0 : M8 0 [.val (.ref b), .val (.int v1), l2] st (put b e s A L B g) Q = M8 5 [.val (.ref b), .val (.int v1), l2] st (put b e (ou s 34 v1) A L B g) Q := (w_x (dc (.aload_n 0, 1)) rfl).trans ((w_x (dc (.iload_n 1, 1)) rfl).trans (w_put (dc (.putfield 344, 3)) pf8_344 put_o (Nat.zero_le _) (by show 77 < 90; omega) rfl put_s34))
theorem pf8_347 : pfR tables_1 y8.cls y8.name 347 = some ("MacroAssembler", 78, .int) := by decide +kernel
theorem m8_5 : M8 5 [.val (.ref b), l1, .val (.int v2)] st (put b e s A L B g) Q = M8 10 [.val (.ref b), l1, .val (.int v2)] st (put b e (ou s 35 v2) A L B g) Q := (w_x (dc (.aload_n 0, 1)) rfl).trans ((w_x (dc (.iload_n 2, 1)) rfl).trans (w_put (dc (.putfield 347, 3)) pf8_347 put_o (Nat.zero_le _) (by show 78 < 90; omega) rfl put_s35))
theorem m8_10 : M8 10 [.val (.ref b), .val (.int v1), l2] st H Q = if v1 < 0 then M8 30 [.val (.ref b), .val (.int v1), l2] (.ref b :: st) H Q else M8 15 [.val (.ref b), .val (.int v1), l2] (.ref b :: st) H Q := (w_x (dc (.aload_n 0, 1)) rfl).trans ((w_x (dc (.iload_n 1, 1)) rfl).trans (w_if (dc (.ifCond .lt 18, 3)) (z_lt v1) rfl))
theorem m8_15 : M8 15 [l0, .val (.int v1), l2] st H Q = if v1 < 8 then M8 21 [l0, .val (.int v1), l2] st H Q else M8 30 [l0, .val (.int v1), l2] st H Q := (w_x (dc (.iload_n 1, 1)) rfl).trans ((w_ki 8 (dc (.bipush 8, 2)) rfl).trans (w_icmpN (dc (.if_icmp .ge 12, 3)) (i_ge v1 8) rfl))
theorem m8_21 : M8 21 [.val (.ref b), .val (.int v1), l2] st (put b e s A L B g) Q = (inB v1 (A 8) ∧ M8 27 [.val (.ref b), .val (.int v1), l2] (.int (getA (A 8) v1) :: st) (put b e s A L B g) Q) := (w_x (dc (.aload_n 0, 1)) rfl).trans ((w_get (dc (.getfield 106, 3)) gf_106 put_o rfl).trans ((w_x (dc (.iload_n 1, 1)) rfl).trans (w_ild (dc (.iaload, 1)) rfl put_a8)))
theorem m8_27 : M8 27 ls st H Q = M8 34 ls st H Q := w_x (dc (.goto 7, 3)) rfl
theorem m8_30 : M8 30 [.val (.ref b), l1, l2] st (put b e s A L B g) Q = M8 34 [.val (.ref b), l1, l2] (.int (s 23) :: st) (put b e s A L B g) Q := (w_x (dc (.aload_n 0, 1)) rfl).trans (w_get (dc (.getfield 209, 3)) gf_209 put_o rfl)
theorem pf8_350 : pfR tables_1 y8.cls y8.name 350 = some ("MacroAssembler", 79, .int) := by decide +kernel
theorem m8_34 : M8 34 ls (.int v :: .ref b :: st) (put b e s A L B g) Q = M8 37 ls st (put b e (ou s 36 v) A L B g) Q := w_put (dc (.putfield 350, 3)) pf8_350 put_o (Nat.zero_le _) (by show 79 < 90; omega) rfl put_s36
theorem m8_37 : M8 37 ls [] H Q = Q none H := w_vret (dc (.return_, 1)) rfl
theorem m9_0 : M9 0 [.val (.ref b), l1] st (put b e s A L B g) Q = if (s 35) < (s 36) then M9 16 [.val (.ref b), l1] st (put b e s A L B g) Q else M9 11 [.val (.ref b), l1] st (put b e s A L B g) Q := (w_x (dc (.aload_n 0, 1)) rfl).trans ((w_get (dc (.getfield 347, 3)) gf_347 put_o rfl).trans ((w_x (dc (.aload_n 0, 1)) rfl).trans ((w_get (dc (.getfield 350, 3)) gf_350 put_o rfl).trans (w_icmp (dc (.if_icmp .lt 8, 3)) (i_lt (s 35) (s 36)) rfl))))
theorem m9_11 : M9 11 [.val (.ref r), l1] st H Q = M9 12 [.val (.ref r), l1] (.ref r :: st) H Q := w_x (dc (.aload_n 0, 1)) rfl
theorem cr9_353 : vR tables_1 dn y9 353 = some (true, y49, prog_1_method_42_code, 1, none, 0, 98) := pR_of (cR_of (by decide +kernel) rc_49 dn_49 dn_9 (sig := ⟨[], none⟩) (by decide +kernel) (by decide +kernel) rfl rfl) (by decide +kernel) (by decide +kernel)
theorem m9_12 : M9 12 ls [.ref b] (put b e s A L B g) Q = M49 0 [.val (.ref b)] [] (put b e s A L B g) (fun v H1 => M9 15 ls (v.toList ++ []) H1 Q) := w_virt (as := []) (rest := []) (a := b) (dc (.invokevirtual 353, 3)) cr9_353 put_o rfl rfl (Nat.le_of_ble_eq_true rfl) (by show 1 ≤ 1; omega) rfl
theorem m9_15 : M9 15 ls [] H Q = Q none H := w_vret (dc (.return_, 1)) rfl
theorem pf9_347 : pfR tables_1 y9.cls y9.name 347 = some ("MacroAssembler", 78, .int) := by decide +kernel
theorem m9_16 : M9 16 [.val (.ref b), .unset] st (put b e s A L B g) Q = M9 31 [.val (.ref b), .val (.int (s 35))] st (put b e (ou s 35 (((s 35) + 1))) A L B g) Q := (w_x (dc (.aload_n 0, 1)) rfl).trans ((w_get (dc (.getfield 347, 3)) gf_347 put_o rfl).trans ((w_st (i := 1) (p := isI) (dc (.istore_n 1, 1)) rfl rfl rfl rfl rfl rfl).trans ((w_x (dc (.aload_n 0, 1)) rfl).trans ((w_x (dc (.dup, 1)) rfl).trans ((w_get (dc (.getfield 347, 3)) gf_347 put_o rfl).trans ((w_ki 1 (dc (.iconst 1, 1)) rfl).trans ((w_x (dc (.iadd, 1)) rfl).trans (w_put (dc (.putfield 347, 3)) pf9_347 put_o (Nat.zero_le _) (by show 78 < 90; omega) rfl put_s35))))))))
theorem m9_31 : M9 31 [.val (.ref b), l1] st (put b e s A L B g) Q = if (s 34) < 0 then M9 39 [.val (.ref b), l1] (.ref b :: st) (put b e s A L B g) Q else M9 45 [.val (.ref b), l1] (.ref b :: st) (put b e s A L B g) Q := (w_x (dc (.aload_n 0, 1)) rfl).trans ((w_x (dc (.aload_n 0, 1)) rfl).trans ((w_get (dc (.getfield 344, 3)) gf_344 put_o rfl).trans (w_ifN (dc (.ifCond .ge 9, 3)) (z_ge (s 34)) rfl)))
theorem m9_39 : M9 39 [l0, .val (.int v1)] st H Q = M9 49 [l0, .val (.int v1)] (.int (v1 + 1) :: st) H Q := (w_x (dc (.iload_n 1, 1)) rfl).trans ((w_ki 1 (dc (.iconst 1, 1)) rfl).trans ((w_x (dc (.iadd, 1)) rfl).trans (w_x (dc (.goto 7, 3)) rfl)))
theorem m9_45 : M9 45 [.val (.ref r), l1] st H Q = M9 46 [.val (.ref r), l1] (.ref r :: st) H Q := w_x (dc (.aload_n 0, 1)) rfl
theorem cr9_356 : vR tables_1 dn y9 356 = some (true, y35, prog_1_method_43_code, 2, (some .int), 0, 111) := pR_of (cR_of (by decide +kernel) rc_35 dn_35 dn_9 (sig := ⟨[], some .int⟩) (by decide +kernel) (by decide +kernel) rfl rfl) (by decide +kernel) (by decide +kernel)
theorem m9_46 (u0 : Nat) : M9 46 ls [.ref b, .ref u0] (put b e s A L B g) Q = M35 0 [.val (.ref b), .unset] [] (put b e s A L B g) (fun v H1 => M9 49 ls (v.toList ++ [.ref u0]) H1 Q) := w_virt (as := []) (rest := [.ref u0]) (a := b) (dc (.invokevirtual 356, 3)) cr9_356 put_o rfl rfl (Nat.le_of_ble_eq_true rfl) (by show 1 ≤ 2; omega) rfl
theorem pf9_212 : pfR tables_1 y9.cls y9.name 212 = some ("MacroAssembler", 75, .int) := by decide +kernel
theorem m9_49 : M9 49 ls (.int v :: .ref b :: st) (put b e s A L B g) Q = M9 52 ls st (put b e (ou s 43 v) A L B g) Q := w_put (dc (.putfield 212, 3)) pf9_212 put_o (Nat.zero_le _) (by show 75 < 90; omega) rfl put_s43
theorem pf9_319 : pfR tables_1 y9.cls y9.name 319 = some ("MacroAssembler", 67, .int) := by decide +kernel
theorem m9_52 : M9 52 [.val (.ref b), l1] st (put b e s A L B g) Q = M9 62 [.val (.ref b), l1] st (put b e (ou s 40 (((s 40) + 1))) A L B g) Q := (w_x (dc (.aload_n 0, 1)) rfl).trans ((w_x (dc (.dup, 1)) rfl).trans ((w_get (dc (.getfield 319, 3)) gf_319 put_o rfl).trans ((w_ki 1 (dc (.iconst 1, 1)) rfl).trans ((w_x (dc (.iadd, 1)) rfl).trans (w_put (dc (.putfield 319, 3)) pf9_319 put_o (Nat.zero_le _) (by show 67 < 90; omega) rfl put_s40)))))
theorem m9_62 : M9 62 [.val (.ref b), l1] st (put b e s A L B g) Q = if 256 < (s 40) then M9 72 [.val (.ref b), l1] st (put b e s A L B g) Q else M9 77 [.val (.ref b), l1] st (put b e s A L B g) Q := (w_x (dc (.aload_n 0, 1)) rfl).trans ((w_get (dc (.getfield 319, 3)) gf_319 put_o rfl).trans ((w_ki 256 (dc (.sipush 256, 3)) rfl).trans (w_icmpN (dc (.if_icmp .le 8, 3)) (i_le (s 40) 256) rfl)))
theorem m9_77 : M9 77 [l0, .val (.int v1)] st H Q = if v1 < 0 then M9 89 [l0, .val (.int v1)] st H Q else M9 81 [l0, .val (.int v1)] st H Q := (w_x (dc (.iload_n 1, 1)) rfl).trans (w_if (dc (.ifCond .lt 11, 3)) (z_lt v1) rfl)
theorem m9_81 : M9 81 [.val (.ref b), .val (.int v1)] st (put b e s A L B g) Q = if v1 < (s 23) then M9 94 [.val (.ref b), .val (.int v1)] st (put b e s A L B g) Q else M9 89 [.val (.ref b), .val (.int v1)] st (put b e s A L B g) Q := (w_x (dc (.iload_n 1, 1)) rfl).trans ((w_x (dc (.aload_n 0, 1)) rfl).trans ((w_get (dc (.getfield 209, 3)) gf_209 put_o rfl).trans (w_icmp (dc (.if_icmp .lt 8, 3)) (i_lt v1 (s 23)) rfl)))
theorem m9_94 : M9 94 [.val (.ref b), l1] st (put b e s A L B g) Q = if (s 34) < 0 then M9 101 [.val (.ref b), l1] st (put b e s A L B g) Q else M9 109 [.val (.ref b), l1] st (put b e s A L B g) Q := (w_x (dc (.aload_n 0, 1)) rfl).trans ((w_get (dc (.getfield 344, 3)) gf_344 put_o rfl).trans (w_ifN (dc (.ifCond .ge 11, 3)) (z_ge (s 34)) rfl))
theorem m9_101 : M9 101 [.val (.ref b), .val (.int v1)] st H Q = M9 103 [.val (.ref b), .val (.int v1)] (.int v1 :: .ref b :: st) H Q := (w_x (dc (.aload_n 0, 1)) rfl).trans (w_x (dc (.iload_n 1, 1)) rfl)
theorem cr9_359 : vR tables_1 dn y9 359 = some (true, y10, prog_1_method_45_code, 3, none, 1, 110) := pR_of (cR_of (by decide +kernel) rc_10 dn_10 dn_9 (sig := ⟨[.int], none⟩) (by decide +kernel) (by decide +kernel) rfl rfl) (by decide +kernel) (by decide +kernel)
theorem m9_103 (a0 : Int32) : M9 103 ls [.int a0, .ref b] (put b e s A L B g) Q = M10 0 [.val (.ref b), .val (.int a0), .unset] [] (put b e s A L B g) (fun v H1 => M9 106 ls (v.toList ++ []) H1 Q) := w_virt (as := [.int a0]) (rest := []) (a := b) (dc (.invokevirtual 359, 3)) cr9_359 put_o rfl rfl (Nat.le_of_ble_eq_true rfl) (by show 2 ≤ 3; omega) rfl
theorem m9_106 : M9 106 ls st H Q = M9 114 ls st H Q := w_x (dc (.goto 8, 3)) rfl
theorem m9_109 : M9 109 [.val (.ref b), .val (.int v1)] st H Q = M9 111 [.val (.ref b), .val (.int v1)] (.int v1 :: .ref b :: st) H Q := (w_x (dc (.aload_n 0, 1)) rfl).trans (w_x (dc (.iload_n 1, 1)) rfl)
theorem cr9_363 : vR tables_1 dn y9 363 = some (true, y36, prog_1_method_46_code, 8, none, 1, 62) := pR_of (cR_of (by decide +kernel) rc_36 dn_36 dn_9 (sig := ⟨[.int], none⟩) (by decide +kernel) (by decide +kernel) rfl rfl) (by decide +kernel) (by decide +kernel)
theorem m9_111 (a0 : Int32) : M9 111 ls [.int a0, .ref b] (put b e s A L B g) Q = M36 0 [.val (.ref b), .val (.int a0), .unset, .unset, .unset, .unset, .unset, .unset] [] (put b e s A L B g) (fun v H1 => M9 114 ls (v.toList ++ []) H1 Q) := w_virt (as := [.int a0]) (rest := []) (a := b) (dc (.invokevirtual 363, 3)) cr9_363 put_o rfl rfl (Nat.le_of_ble_eq_true rfl) (by show 2 ≤ 8; omega) rfl
theorem m9_114 : M9 114 [.val (.ref b), l1] st (put b e s A L B g) Q = if (s 44) = 0 then M9 122 [.val (.ref b), l1] st (put b e s A L B g) Q else M9 121 [.val (.ref b), l1] st (put b e s A L B g) Q := (w_x (dc (.aload_n 0, 1)) rfl).trans ((w_get (dc (.getfield 199, 3)) gf_199 put_o rfl).trans (w_if (dc (.ifCond .eq 4, 3)) (z_eq (s 44)) rfl))
theorem m9_122 : M9 122 [.val (.ref b), l1] st (put b e s A L B g) Q = if (s 37) = 1 then M9 130 [.val (.ref b), l1] st (put b e s A L B g) Q else M9 138 [.val (.ref b), l1] st (put b e s A L B g) Q := (w_x (dc (.aload_n 0, 1)) rfl).trans ((w_get (dc (.getfield 325, 3)) gf_325 put_o rfl).trans ((w_ki 1 (dc (.iconst 1, 1)) rfl).trans (w_icmpN (dc (.if_icmp .ne 11, 3)) (i_ne (s 37) 1) rfl)))
theorem m9_130 : M9 130 [.val (.ref b), .val (.int v1)] st H Q = M9 132 [.val (.ref b), .val (.int v1)] (.int v1 :: .ref b :: st) H Q := (w_x (dc (.aload_n 0, 1)) rfl).trans (w_x (dc (.iload_n 1, 1)) rfl)
theorem cr9_366 : vR tables_1 dn y9 366 = some (true, y27, prog_1_method_50_code, 4, none, 1, 40) := pR_of (cR_of (by decide +kernel) rc_27 dn_27 dn_9 (sig := ⟨[.int], none⟩) (by decide +kernel) (by decide +kernel) rfl rfl) (by decide +kernel) (by decide +kernel)
theorem m9_132 (a0 : Int32) : M9 132 ls [.int a0, .ref b] (put b e s A L B g) Q = M27 0 [.val (.ref b), .val (.int a0), .unset, .unset] [] (put b e s A L B g) (fun v H1 => M9 135 ls (v.toList ++ []) H1 Q) := w_virt (as := [.int a0]) (rest := []) (a := b) (dc (.invokevirtual 366, 3)) cr9_366 put_o rfl rfl (Nat.le_of_ble_eq_true rfl) (by show 2 ≤ 4; omega) rfl
theorem m9_135 : M9 135 ls st H Q = M9 157 ls st H Q := w_x (dc (.goto 22, 3)) rfl
theorem m9_138 : M9 138 [.val (.ref b), l1] st (put b e s A L B g) Q = if (s 37) = 2 then M9 146 [.val (.ref b), l1] st (put b e s A L B g) Q else M9 153 [.val (.ref b), l1] st (put b e s A L B g) Q := (w_x (dc (.aload_n 0, 1)) rfl).trans ((w_get (dc (.getfield 325, 3)) gf_325 put_o rfl).trans ((w_ki 2 (dc (.iconst 2, 1)) rfl).trans (w_icmpN (dc (.if_icmp .ne 10, 3)) (i_ne (s 37) 2) rfl)))
theorem m9_153 : M9 153 [.val (.ref r), l1] st H Q = M9 154 [.val (.ref r), l1] (.ref r :: st) H Q := w_x (dc (.aload_n 0, 1)) rfl
theorem cr9_372 : vR tables_1 dn y9 372 = some (true, y11, prog_1_method_53_code, 10, none, 0, 0) := pR_of (cR_of (by decide +kernel) rc_11 dn_11 dn_9 (sig := ⟨[], none⟩) (by decide +kernel) (by decide +kernel) rfl rfl) (by decide +kernel) (by decide +kernel)
theorem m9_154 : M9 154 ls [.ref b] (put b e s A L B g) Q = M11 0 [.val (.ref b), .unset, .unset, .unset, .unset, .unset, .unset, .unset, .unset, .unset] [] (put b e s A L B g) (fun v H1 => M9 157 ls (v.toList ++ []) H1 Q) := w_virt (as := []) (rest := []) (a := b) (dc (.invokevirtual 372, 3)) cr9_372 put_o rfl rfl (Nat.le_of_ble_eq_true rfl) (by show 1 ≤ 10; omega) rfl
theorem m9_157 : M9 157 ls [] H Q = Q none H := w_vret (dc (.return_, 1)) rfl
theorem pf10_274 : pfR tables_1 y10.cls y10.name 274 = some ("MacroAssembler", 80, .int) := by decide +kernel
theorem m10_0 : M10 0 [.val (.ref b), l1, l2] st (put b e s A L B g) Q = M10 5 [.val (.ref b), l1, l2] st (put b e (ou s 46 0) A L B g) Q := (w_x (dc (.aload_n 0, 1)) rfl).trans ((w_ki 0 (dc (.iconst 0, 1)) rfl).trans (w_put (dc (.putfield 274, 3)) pf10_274 put_o (Nat.zero_le _) (by show 80 < 90; omega) rfl put_s46))
theorem m10_5 : M10 5 [.val (.ref b), .val (.int v1), l2] st (put b e s A L B g) Q = (inB v1 (A 1) ∧ M10 11 [.val (.ref b), .val (.int v1), l2] (.int (getA (A 1) v1) :: st) (put b e s A L B g) Q) := (w_x (dc (.aload_n 0, 1)) rfl).trans ((w_get (dc (.getfield 77, 3)) gf_77 put_o rfl).trans ((w_x (dc (.iload_n 1, 1)) rfl).trans (w_ild (dc (.iaload, 1)) rfl put_a1)))
theorem m10_11u : M10 11 [l0, l1, .unset] ((.int v) :: st) H Q = M10 12 [l0, l1, .val (.int v)] st H Q := w_st (i := 2) (p := isI) (dc (.istore_n 2, 1)) rfl rfl rfl rfl rfl rfl
theorem m10_12 : M10 12 [.val (.ref b), .val (.int v1), .val (.int v2)] st (put b e s A L B g) Q = (inB v1 (A 2) ∧ M10 19 [.val (.ref b), .val (.int v1), .val (.int v2)] (.int (getA (A 2) v1) :: .int v2 :: st) (put b e s A L B g) Q) := (w_x (dc (.iload_n 2, 1)) rfl).trans ((w_x (dc (.aload_n 0, 1)) rfl).trans ((w_get (dc (.getfield 81, 3)) gf_81 put_o rfl).trans ((w_x (dc (.iload_n 1, 1)) rfl).trans (w_ild (dc (.iaload, 1)) rfl put_a2))))
theorem m10_19 : M10 19 ls (.int y :: .int x :: st) H Q = if x < y then M10 22 ls st H Q else M10 63 ls st H Q := w_icmpN (dc (.if_icmp .ge 44, 3)) (i_ge x y) rfl
theorem m10_22 : M10 22 [.val (.ref b), l1, l2] st (put b e s A L B g) Q = if (s 46) < 640 then M10 32 [.val (.ref b), l1, l2] st (put b e s A L B g) Q else M10 63 [.val (.ref b), l1, l2] st (put b e s A L B g) Q := (w_x (dc (.aload_n 0, 1)) rfl).trans ((w_get (dc (.getfield 274, 3)) gf_274 put_o rfl).trans ((w_ki 640 (dc (.sipush 640, 3)) rfl).trans (w_icmpN (dc (.if_icmp .ge 34, 3)) (i_ge (s 46) 640) rfl)))
theorem m10_32 : M10 32 [.val (.ref b), l1, .val (.int v2)] st (put b e s A L B g) Q = (inB v2 (A 0) ∧ M10 46 [.val (.ref b), l1, .val (.int v2)] (.int (getA (A 0) v2) :: .int (s 46) :: .ref (b + 22) :: st) (put b e s A L B g) Q) := (w_x (dc (.aload_n 0, 1)) rfl).trans ((w_get (dc (.getfield 140, 3)) gf_140 put_o rfl).trans ((w_x (dc (.aload_n 0, 1)) rfl).trans ((w_get (dc (.getfield 274, 3)) gf_274 put_o rfl).trans ((w_x (dc (.aload_n 0, 1)) rfl).trans ((w_get (dc (.getfield 73, 3)) gf_73 put_o rfl).trans ((w_x (dc (.iload_n 2, 1)) rfl).trans (w_ild (dc (.caload, 1)) rfl put_a0)))))))
theorem m10_46  : M10 46 ls (.int v :: .int j :: .ref (b + 22) :: st) (put b e s A L B g) Q = (inB j (A 19) ∧ M10 47 ls st (put b e s (ou A 19 (setA (A 19) j (nar .char v))) L B g) Q) := w_ist (dc (.castore, 1)) rfl put_a19 (Nat.zero_le _) rfl put_w19
theorem m10_47 : M10 47 [.val (.ref b), l1, l2] st (put b e s A L B g) Q = M10 57 [.val (.ref b), l1, l2] st (put b e (ou s 46 (((s 46) + 1))) A L B g) Q := (w_x (dc (.aload_n 0, 1)) rfl).trans ((w_x (dc (.dup, 1)) rfl).trans ((w_get (dc (.getfield 274, 3)) gf_274 put_o rfl).trans ((w_ki 1 (dc (.iconst 1, 1)) rfl).trans ((w_x (dc (.iadd, 1)) rfl).trans (w_put (dc (.putfield 274, 3)) pf10_274 put_o (Nat.zero_le _) (by show 80 < 90; omega) rfl put_s46)))))
theorem m10_57 : M10 57 [l0, l1, .val (.int v2)] st H Q = M10 12 [l0, l1, .val (.int (v2 + 1))] st H Q := (w_iinc (dc (.iinc 2 1, 3)) rfl (by decide) rfl).trans (w_x (dc (.goto (-48), 3)) rfl)
theorem m10_63 : M10 63 ls [] H Q = Q none H := w_vret (dc (.return_, 1)) rfl
theorem m11_0 : M11 0 [.val (.ref r), l1, l2, l3, l4, l5, l6, l7, l8, l9] st H Q = M11 1 [.val (.ref r), l1, l2, l3, l4, l5, l6, l7, l8, l9] (.ref r :: st) H Q := w_x (dc (.aload_n 0, 1)) rfl
theorem cr11_397 : vR tables_1 dn y11 397 = some (true, y12, prog_1_method_54_code, 4, none, 0, 47) := pR_of (cR_of (by decide +kernel) rc_12 dn_12 dn_11 (sig := ⟨[], none⟩) (by decide +kernel) (by decide +kernel) rfl rfl) (by decide +kernel) (by decide +kernel)
theorem m11_1 : M11 1 ls [.ref b] (put b e s A L B g) Q = M12 0 [.val (.ref b), .unset, .unset, .unset] [] (put b e s A L B g) (fun v H1 => M11 4 ls (v.toList ++ []) H1 Q) := w_virt (as := []) (rest := []) (a := b) (dc (.invokevirtual 397, 3)) cr11_397 put_o rfl rfl (Nat.le_of_ble_eq_true rfl) (by show 1 ≤ 4; omega) rfl
theorem m11_4 : M11 4 [.val (.ref b), l1, l2, l3, l4, l5, l6, l7, l8, l9] st (put b e s A L B g) Q = M11 9 [.val (.ref b), l1, l2, l3, l4, l5, l6, l7, l8, l9] (.int (s 48) :: .ref b :: st) (put b e s A L B g) Q := (w_x (dc (.aload_n 0, 1)) rfl).trans ((w_x (dc (.aload_n 0, 1)) rfl).trans (w_get (dc (.getfield 400, 3)) gf_400 put_o rfl))
theorem cr11_292 : vR tables_1 dn y11 292 = some (true, y13, prog_1_method_25_code, 4, (some .int), 1, 88) := pR_of (cR_of (by decide +kernel) rc_13 dn_13 dn_11 (sig := ⟨[.int], some .int⟩) (by decide +kernel) (by decide +kernel) rfl rfl) (by decide +kernel) (by decide +kernel)
theorem m11_9 (a0 : Int32) : M11 9 ls [.int a0, .ref b] (put b e s A L B g) Q = M13 0 [.val (.ref b), .val (.int a0), .unset, .unset] [] (put b e s A L B g) (fun v H1 => M11 12 ls (v.toList ++ []) H1 Q) := w_virt (as := [.int a0]) (rest := []) (a := b) (dc (.invokevirtual 292, 3)) cr11_292 put_o rfl rfl (Nat.le_of_ble_eq_true rfl) (by show 2 ≤ 4; omega) rfl
theorem m11_12u : M11 12 [l0, .unset, l2, l3, l4, l5, l6, l7, l8, l9] ((.int v) :: st) H Q = M11 13 [l0, .val (.int v), l2, l3, l4, l5, l6, l7, l8, l9] st H Q := w_st (i := 1) (p := isI) (dc (.istore_n 1, 1)) rfl rfl rfl rfl rfl rfl
theorem m11_13 : M11 13 [.val (.ref b), .val (.int v1), l2, l3, l4, l5, l6, l7, l8, l9] st (put b e s A L B g) Q = if v1 < (s 46) then M11 21 [.val (.ref b), .val (.int v1), l2, l3, l4, l5, l6, l7, l8, l9] st (put b e s A L B g) Q else M11 32 [.val (.ref b), .val (.int v1), l2, l3, l4, l5, l6, l7, l8, l9] st (put b e s A L B g) Q := (w_x (dc (.iload_n 1, 1)) rfl).trans ((w_x (dc (.aload_n 0, 1)) rfl).trans ((w_get (dc (.getfield 274, 3)) gf_274 put_o rfl).trans (w_icmpN (dc (.if_icmp .ge 14, 3)) (i_ge v1 (s 46)) rfl)))
theorem m11_21 : M11 21 [.val (.ref b), .val (.int v1), l2, l3, l4, l5, l6, l7, l8, l9] st (put b e s A L B g) Q = (inB v1 (A 19) ∧ M11 27 [.val (.ref b), .val (.int v1), l2, l3, l4, l5, l6, l7, l8, l9] (.int (getA (A 19) v1) :: st) (put b e s A L B g) Q) := (w_x (dc (.aload_n 0, 1)) rfl).trans ((w_get (dc (.getfield 140, 3)) gf_140 put_o rfl).trans ((w_x (dc (.iload_n 1, 1)) rfl).trans (w_ild (dc (.caload, 1)) rfl put_a19)))
theorem m11_27 : M11 27 ls st H Q = M11 29 ls (.int 59 :: st) H Q := w_con (dc (.bipush 59, 2)) rfl (by decide)
theorem m11_29 : M11 29 ls (.int y :: .int x :: st) H Q = if x = y then M11 32 ls st H Q else M11 37 ls st H Q := w_icmpN (dc (.if_icmp .ne 8, 3)) (i_ne x y) rfl
theorem m11_37 : M11 37 [.val (.ref b), .val (.int v1), l2, l3, l4, l5, l6, l7, l8, l9] st (put b e s A L B g) Q = (inB v1 (A 19) ∧ M11 44 [.val (.ref b), .val (.int v1), l2, l3, l4, l5, l6, l7, l8, l9] (.int (getA (A 19) v1) :: .ref b :: st) (put b e s A L B g) Q) := (w_x (dc (.aload_n 0, 1)) rfl).trans ((w_x (dc (.aload_n 0, 1)) rfl).trans ((w_get (dc (.getfield 140, 3)) gf_140 put_o rfl).trans ((w_x (dc (.iload_n 1, 1)) rfl).trans (w_ild (dc (.caload, 1)) rfl put_a19))))
theorem cr11_268 : vR tables_1 dn y11 268 = some (true, y14, prog_1_method_23_code, 2, (some .boolean), 1, 90) := pR_of (cR_of (by decide +kernel) rc_14 dn_14 dn_11 (sig := ⟨[.int], some .boolean⟩) (by decide +kernel) (by decide +kernel) rfl rfl) (by decide +kernel) (by decide +kernel)
theorem m11_44 (a0 : Int32) : M11 44 ls [.int a0, .ref b] (put b e s A L B g) Q = M14 0 [.val (.ref b), .val (.int a0)] [] (put b e s A L B g) (fun v H1 => M11 47 ls (v.toList ++ []) H1 Q) := w_virt (as := [.int a0]) (rest := []) (a := b) (dc (.invokevirtual 268, 3)) cr11_268 put_o rfl rfl (Nat.le_of_ble_eq_true rfl) (by show 2 ≤ 2; omega) rfl
theorem m11_47 : M11 47 ls (.int x :: st) H Q = if x = 0 then M11 50 ls st H Q else M11 55 ls st H Q := w_ifN (dc (.ifCond .ne 8, 3)) (z_ne x) rfl
theorem m11_55 : M11 55 [.val (.ref b), .val (.int v1), l2, l3, l4, l5, l6, l7, l8, l9] st H Q = M11 57 [.val (.ref b), .val (.int v1), l2, l3, l4, l5, l6, l7, l8, l9] (.int v1 :: .ref b :: st) H Q := (w_x (dc (.aload_n 0, 1)) rfl).trans (w_x (dc (.iload_n 1, 1)) rfl)
theorem cr11_284 : vR tables_1 dn y11 284 = some (true, y15, prog_1_method_26_code, 4, (some .int), 1, 62) := pR_of (cR_of (by decide +kernel) rc_15 dn_15 dn_11 (sig := ⟨[.int], some .int⟩) (by decide +kernel) (by decide +kernel) rfl rfl) (by decide +kernel) (by decide +kernel)
theorem m11_57 (a0 : Int32) : M11 57 ls [.int a0, .ref b] (put b e s A L B g) Q = M15 0 [.val (.ref b), .val (.int a0), .unset, .unset] [] (put b e s A L B g) (fun v H1 => M11 60 ls (v.toList ++ []) H1 Q) := w_virt (as := [.int a0]) (rest := []) (a := b) (dc (.invokevirtual 284, 3)) cr11_284 put_o rfl rfl (Nat.le_of_ble_eq_true rfl) (by show 2 ≤ 4; omega) rfl
theorem m11_60u : M11 60 [l0, l1, .unset, l3, l4, l5, l6, l7, l8, l9] ((.int v) :: st) H Q = M11 61 [l0, l1, .val (.int v), l3, l4, l5, l6, l7, l8, l9] st H Q := w_st (i := 2) (p := isI) (dc (.istore_n 2, 1)) rfl rfl rfl rfl rfl rfl
theorem m11_61 : M11 61 [.val (.ref b), .val (.int v1), .val (.int v2), l3, l4, l5, l6, l7, l8, l9] st H Q = M11 64 [.val (.ref b), .val (.int v1), .val (.int v2), l3, l4, l5, l6, l7, l8, l9] (.int v2 :: .int v1 :: .ref b :: st) H Q := (w_x (dc (.aload_n 0, 1)) rfl).trans ((w_x (dc (.iload_n 1, 1)) rfl).trans (w_x (dc (.iload_n 2, 1)) rfl))
theorem cr11_288 : vR tables_1 dn y11 288 = some (true, y18, prog_1_method_27_code, 6, (some .long), 2, 86) := pR_of (cR_of (by decide +kernel) rc_18 dn_18 dn_11 (sig := ⟨[.int, .int], some .long⟩) (by decide +kernel) (by decide +kernel) rfl rfl) (by decide +kernel) (by decide +kernel)
theorem m11_64 (a0 : Int32) (a1 : Int32) : M11 64 ls [.int a1, .int a0, .ref b] (put b e s A L B g) Q = M18 0 [.val (.ref b), .val (.int a0), .val (.int a1), .unset, .unset, .unset] [] (put b e s A L B g) (fun v H1 => M11 67 ls (v.toList ++ []) H1 Q) := w_virt (as := [.int a1, .int a0]) (rest := []) (a := b) (dc (.invokevirtual 288, 3)) cr11_288 put_o rfl rfl (Nat.le_of_ble_eq_true rfl) (by show 3 ≤ 6; omega) rfl
theorem m11_67 : M11 67 [l0, l1, l2, .unset, .unset, l5, l6, l7, l8, l9] (.long J1 :: st) H Q = M11 68 [l0, l1, l2, .val (.long J1), .second, l5, l6, l7, l8, l9] st H Q := w_x (dc (.lstore_n 3, 1)) rfl
theorem m11_68 : M11 68 [.val (.ref b), l1, .val (.int v2), l3, l4, l5, l6, l7, l8, l9] st H Q = M11 70 [.val (.ref b), l1, .val (.int v2), l3, l4, l5, l6, l7, l8, l9] (.int v2 :: .ref b :: st) H Q := (w_x (dc (.aload_n 0, 1)) rfl).trans (w_x (dc (.iload_n 2, 1)) rfl)
theorem m11_70 (a0 : Int32) : M11 70 ls [.int a0, .ref b] (put b e s A L B g) Q = M13 0 [.val (.ref b), .val (.int a0), .unset, .unset] [] (put b e s A L B g) (fun v H1 => M11 73 ls (v.toList ++ []) H1 Q) := w_virt (as := [.int a0]) (rest := []) (a := b) (dc (.invokevirtual 292, 3)) cr11_292 put_o rfl rfl (Nat.le_of_ble_eq_true rfl) (by show 2 ≤ 4; omega) rfl
theorem m11_73u : M11 73 [l0, l1, l2, l3, l4, .unset, l6, l7, l8, l9] ((.int v) :: st) H Q = M11 75 [l0, l1, l2, l3, l4, .val (.int v), l6, l7, l8, l9] st H Q := w_st (i := 5) (p := isI) (dc (.istore 5, 2)) rfl rfl rfl rfl rfl rfl
theorem m11_75 : M11 75 [.val (.ref b), l1, l2, l3, l4, .val (.int v5), l6, l7, l8, l9] st H Q = M11 78 [.val (.ref b), l1, l2, l3, l4, .val (.int v5), l6, l7, l8, l9] (.int v5 :: .ref b :: st) H Q := (w_x (dc (.aload_n 0, 1)) rfl).trans (w_x (dc (.iload 5, 2)) rfl)
theorem cr11_295 : vR tables_1 dn y11 295 = some (true, y19, prog_1_method_28_code, 3, (some .long), 1, 48) := pR_of (cR_of (by decide +kernel) rc_19 dn_19 dn_11 (sig := ⟨[.int], some .long⟩) (by decide +kernel) (by decide +kernel) rfl rfl) (by decide +kernel) (by decide +kernel)
theorem m11_78 (a0 : Int32) : M11 78 ls [.int a0, .ref b] (put b e s A L B g) Q = M19 0 [.val (.ref b), .val (.int a0), .unset] [] (put b e s A L B g) (fun v H1 => M11 81 ls (v.toList ++ []) H1 Q) := w_virt (as := [.int a0]) (rest := []) (a := b) (dc (.invokevirtual 295, 3)) cr11_295 put_o rfl rfl (Nat.le_of_ble_eq_true rfl) (by show 2 ≤ 3; omega) rfl
theorem m11_81 : M11 81 [l0, l1, l2, l3, l4, l5, .unset, .unset, l8, l9] (.long J1 :: st) H Q = M11 83 [l0, l1, l2, l3, l4, l5, .val (.long J1), .second, l8, l9] st H Q := w_x (dc (.lstore 6, 2)) rfl
theorem m11_83 : M11 83 [.val (.ref b), l1, l2, l3, l4, l5, .val (.long w6), l7, l8, l9] st H Q = M11 88 [.val (.ref b), l1, l2, l3, l4, l5, .val (.long w6), l7, l8, l9] (.int 11 :: .ref b :: .long w6 :: st) H Q := (w_x (dc (.lload 6, 2)) rfl).trans ((w_x (dc (.aload_n 0, 1)) rfl).trans (w_ki 11 (dc (.bipush 11, 2)) rfl))
theorem cr11_307 : vR tables_1 dn y11 307 = some (true, y20, prog_1_method_33_code, 2, (some .long), 1, 71) := pR_of (cR_of (by decide +kernel) rc_20 dn_20 dn_11 (sig := ⟨[.int], some .long⟩) (by decide +kernel) (by decide +kernel) rfl rfl) (by decide +kernel) (by decide +kernel)
theorem m11_88 (a0 : Int32) (u0 : Int64) : M11 88 ls [.int a0, .ref b, .long u0] (put b e s A L B g) Q = M20 0 [.val (.ref b), .val (.int a0)] [] (put b e s A L B g) (fun v H1 => M11 91 ls (v.toList ++ [.long u0]) H1 Q) := w_virt (as := [.int a0]) (rest := [.long u0]) (a := b) (dc (.invokevirtual 307, 3)) cr11_307 put_o rfl rfl (Nat.le_of_ble_eq_true rfl) (by show 2 ≤ 2; omega) rfl
theorem m11_91 : M11 91 ls (.long J2 :: .long J1 :: st) H Q = M11 92 ls (.int (XT.cmpL J1 J2) :: st) H Q := w_x (dc (.lcmp, 1)) rfl
theorem m11_92 : M11 92 ls (.int x :: st) H Q = if x = 0 then M11 95 ls st H Q else M11 100 ls st H Q := w_ifN (dc (.ifCond .ne 8, 3)) (z_ne x) rfl
theorem m11_100 : M11 100 [.val (.ref b), l1, l2, l3, l4, l5, .val (.long w6), l7, l8, l9] st H Q = M11 105 [.val (.ref b), l1, l2, l3, l4, l5, .val (.long w6), l7, l8, l9] (.int 12 :: .ref b :: .long w6 :: st) H Q := (w_x (dc (.lload 6, 2)) rfl).trans ((w_x (dc (.aload_n 0, 1)) rfl).trans (w_ki 12 (dc (.bipush 12, 2)) rfl))
theorem m11_105 (a0 : Int32) (u0 : Int64) : M11 105 ls [.int a0, .ref b, .long u0] (put b e s A L B g) Q = M20 0 [.val (.ref b), .val (.int a0)] [] (put b e s A L B g) (fun v H1 => M11 108 ls (v.toList ++ [.long u0]) H1 Q) := w_virt (as := [.int a0]) (rest := [.long u0]) (a := b) (dc (.invokevirtual 307, 3)) cr11_307 put_o rfl rfl (Nat.le_of_ble_eq_true rfl) (by show 2 ≤ 2; omega) rfl
theorem m11_108 : M11 108 ls (.long J2 :: .long J1 :: st) H Q = M11 109 ls (.int (XT.cmpL J1 J2) :: st) H Q := w_x (dc (.lcmp, 1)) rfl
theorem m11_109 : M11 109 ls (.int x :: st) H Q = if x = 0 then M11 112 ls st H Q else M11 117 ls st H Q := w_ifN (dc (.ifCond .ne 8, 3)) (z_ne x) rfl
theorem m11_112 : M11 112 [.val (.ref r), l1, l2, l3, l4, l5, l6, l7, l8, l9] st H Q = M11 113 [.val (.ref r), l1, l2, l3, l4, l5, l6, l7, l8, l9] (.ref r :: st) H Q := w_x (dc (.aload_n 0, 1)) rfl
theorem cr11_409 : vR tables_1 dn y11 409 = some (true, y22, prog_1_method_60_code, 3, none, 0, 29) := pR_of (cR_of (by decide +kernel) rc_22 dn_22 dn_11 (sig := ⟨[], none⟩) (by decide +kernel) (by decide +kernel) rfl rfl) (by decide +kernel) (by decide +kernel)
theorem m11_113 : M11 113 ls [.ref b] (put b e s A L B g) Q = M22 0 [.val (.ref b), .unset, .unset] [] (put b e s A L B g) (fun v H1 => M11 116 ls (v.toList ++ []) H1 Q) := w_virt (as := []) (rest := []) (a := b) (dc (.invokevirtual 409, 3)) cr11_409 put_o rfl rfl (Nat.le_of_ble_eq_true rfl) (by show 1 ≤ 3; omega) rfl
theorem m11_116 : M11 116 ls [] H Q = Q none H := w_vret (dc (.return_, 1)) rfl
theorem m11_117 : M11 117 [.val (.ref b), l1, l2, .val (.long w3), l4, l5, l6, l7, l8, l9] st H Q = M11 119 [.val (.ref b), l1, l2, .val (.long w3), l4, l5, l6, l7, l8, l9] (.long w3 :: .ref b :: st) H Q := (w_x (dc (.aload_n 0, 1)) rfl).trans (w_x (dc (.lload_n 3, 1)) rfl)
theorem cr11_394 : vR tables_1 dn y11 394 = some (true, y25, prog_1_method_34_code, 4, (some .int), 1, 56) := pR_of (cR_of (by decide +kernel) rc_25 dn_25 dn_11 (sig := ⟨[.long], some .int⟩) (by decide +kernel) (by decide +kernel) rfl rfl) (by decide +kernel) (by decide +kernel)
theorem m11_119 (a0 : Int64) : M11 119 ls [.long a0, .ref b] (put b e s A L B g) Q = M25 0 [.val (.ref b), .val (.long a0), .second, .unset] [] (put b e s A L B g) (fun v H1 => M11 122 ls (v.toList ++ []) H1 Q) := w_virt (as := [.long a0]) (rest := []) (a := b) (dc (.invokevirtual 394, 3)) cr11_394 put_o rfl rfl (Nat.le_of_ble_eq_true rfl) (by show 3 ≤ 4; omega) rfl
theorem m11_122u : M11 122 [l0, l1, l2, l3, l4, l5, l6, l7, .unset, l9] ((.int v) :: st) H Q = M11 124 [l0, l1, l2, l3, l4, l5, l6, l7, .val (.int v), l9] st H Q := w_st (i := 8) (p := isI) (dc (.istore 8, 2)) rfl rfl rfl rfl rfl rfl
theorem m11_124 : M11 124 [l0, l1, l2, l3, l4, l5, l6, l7, .val (.int v8), l9] st H Q = if v8 < 0 then M11 136 [l0, l1, l2, l3, l4, l5, l6, l7, .val (.int v8), l9] st H Q else M11 129 [l0, l1, l2, l3, l4, l5, l6, l7, .val (.int v8), l9] st H Q := (w_x (dc (.iload 8, 2)) rfl).trans (w_if (dc (.ifCond .lt 10, 3)) (z_lt v8) rfl)
theorem m11_129 : M11 129 [.val (.ref b), l1, l2, l3, l4, l5, l6, l7, .val (.int v8), l9] st H Q = M11 132 [.val (.ref b), l1, l2, l3, l4, l5, l6, l7, .val (.int v8), l9] (.int v8 :: .ref b :: st) H Q := (w_x (dc (.aload_n 0, 1)) rfl).trans (w_x (dc (.iload 8, 2)) rfl)
theorem cr11_412 : vR tables_1 dn y11 412 = some (true, y42, prog_1_method_58_code, 2, none, 1, 0) := pR_of (cR_of (by decide +kernel) rc_42 dn_42 dn_11 (sig := ⟨[.int], none⟩) (by decide +kernel) (by decide +kernel) rfl rfl) (by decide +kernel) (by decide +kernel)
theorem m11_132 (a0 : Int32) : M11 132 ls [.int a0, .ref b] (put b e s A L B g) Q = M42 0 [.val (.ref b), .val (.int a0)] [] (put b e s A L B g) (fun v H1 => M11 135 ls (v.toList ++ []) H1 Q) := w_virt (as := [.int a0]) (rest := []) (a := b) (dc (.invokevirtual 412, 3)) cr11_412 put_o rfl rfl (Nat.le_of_ble_eq_true rfl) (by show 2 ≤ 2; omega) rfl
theorem m11_135 : M11 135 ls [] H Q = Q none H := w_vret (dc (.return_, 1)) rfl
theorem m11_136 : M11 136 [.val (.ref b), l1, l2, .val (.long w3), l4, l5, l6, l7, l8, l9] st H Q = M11 138 [.val (.ref b), l1, l2, .val (.long w3), l4, l5, l6, l7, l8, l9] (.long w3 :: .ref b :: st) H Q := (w_x (dc (.aload_n 0, 1)) rfl).trans (w_x (dc (.lload_n 3, 1)) rfl)
theorem cr11_415 : vR tables_1 dn y11 415 = some (true, y26, prog_1_method_36_code, 4, (some .int), 1, 88) := pR_of (cR_of (by decide +kernel) rc_26 dn_26 dn_11 (sig := ⟨[.long], some .int⟩) (by decide +kernel) (by decide +kernel) rfl rfl) (by decide +kernel) (by decide +kernel)
theorem m11_138 (a0 : Int64) : M11 138 ls [.long a0, .ref b] (put b e s A L B g) Q = M26 0 [.val (.ref b), .val (.long a0), .second, .unset] [] (put b e s A L B g) (fun v H1 => M11 141 ls (v.toList ++ []) H1 Q) := w_virt (as := [.long a0]) (rest := []) (a := b) (dc (.invokevirtual 415, 3)) cr11_415 put_o rfl rfl (Nat.le_of_ble_eq_true rfl) (by show 3 ≤ 4; omega) rfl
theorem m11_141u : M11 141 [l0, l1, l2, l3, l4, l5, l6, l7, l8, .unset] ((.int v) :: st) H Q = M11 143 [l0, l1, l2, l3, l4, l5, l6, l7, l8, .val (.int v)] st H Q := w_st (i := 9) (p := isI) (dc (.istore 9, 2)) rfl rfl rfl rfl rfl rfl
theorem m11_143 : M11 143 [l0, l1, l2, l3, l4, l5, l6, l7, l8, .val (.int v9)] st H Q = if v9 < 0 then M11 148 [l0, l1, l2, l3, l4, l5, l6, l7, l8, .val (.int v9)] st H Q else M11 153 [l0, l1, l2, l3, l4, l5, l6, l7, l8, .val (.int v9)] st H Q := (w_x (dc (.iload 9, 2)) rfl).trans (w_ifN (dc (.ifCond .ge 8, 3)) (z_ge v9) rfl)
theorem m11_153 : M11 153 [.val (.ref b), l1, .val (.int v2), l3, l4, l5, l6, l7, l8, .val (.int v9)] st H Q = M11 157 [.val (.ref b), l1, .val (.int v2), l3, l4, l5, l6, l7, l8, .val (.int v9)] (.int v2 :: .int v9 :: .ref b :: st) H Q := (w_x (dc (.aload_n 0, 1)) rfl).trans ((w_x (dc (.iload 9, 2)) rfl).trans (w_x (dc (.iload_n 2, 1)) rfl))
theorem cr11_418 : vR tables_1 dn y11 418 = some (true, y29, prog_1_method_71_code, 6, none, 2, 12) := pR_of (cR_of (by decide +kernel) rc_29 dn_29 dn_11 (sig := ⟨[.int, .int], none⟩) (by decide +kernel) (by decide +kernel) rfl rfl) (by decide +kernel) (by decide +kernel)
theorem m11_157 (a0 : Int32) (a1 : Int32) : M11 157 ls [.int a1, .int a0, .ref b] (put b e s A L B g) Q = M29 0 [.val (.ref b), .val (.int a0), .val (.int a1), .unset, .unset, .unset] [] (put b e s A L B g) (fun v H1 => M11 160 ls (v.toList ++ []) H1 Q) := w_virt (as := [.int a1, .int a0]) (rest := []) (a := b) (dc (.invokevirtual 418, 3)) cr11_418 put_o rfl rfl (Nat.le_of_ble_eq_true rfl) (by show 3 ≤ 6; omega) rfl
theorem m11_160 : M11 160 ls [] H Q = Q none H := w_vret (dc (.return_, 1)) rfl
theorem pf12_421 : pfR tables_1 y12.cls y12.name 421 = some ("MacroAssembler", 81, .boolean) := by decide +kernel
theorem m12_0 : M12 0 [.val (.ref b), l1, l2, l3] st (put b e s A L B g) Q = M12 5 [.val (.ref b), l1, l2, l3] st (put b e (ou s 47 (nar .boolean 0)) A L B g) Q := (w_x (dc (.aload_n 0, 1)) rfl).trans ((w_ki 0 (dc (.iconst 0, 1)) rfl).trans (w_put (dc (.putfield 421, 3)) pf12_421 put_o (Nat.zero_le _) (by show 81 < 90; omega) rfl put_s47))
theorem pf12_400 : pfR tables_1 y12.cls y12.name 400 = some ("MacroAssembler", 82, .int) := by decide +kernel
theorem m12_5 : M12 5 [.val (.ref b), l1, l2, l3] st (put b e s A L B g) Q = M12 10 [.val (.ref b), l1, l2, l3] st (put b e (ou s 48 0) A L B g) Q := (w_x (dc (.aload_n 0, 1)) rfl).trans ((w_ki 0 (dc (.iconst 0, 1)) rfl).trans (w_put (dc (.putfield 400, 3)) pf12_400 put_o (Nat.zero_le _) (by show 82 < 90; omega) rfl put_s48))
theorem m12_10 : M12 10 [.val (.ref b), l1, l2, l3] st H Q = M12 12 [.val (.ref b), l1, l2, l3] (.int 0 :: .ref b :: st) H Q := (w_x (dc (.aload_n 0, 1)) rfl).trans (w_ki 0 (dc (.iconst 0, 1)) rfl)
theorem cr12_292 : vR tables_1 dn y12 292 = some (true, y13, prog_1_method_25_code, 4, (some .int), 1, 26) := pR_of (cR_of (by decide +kernel) rc_13 dn_13 dn_12 (sig := ⟨[.int], some .int⟩) (by decide +kernel) (by decide +kernel) rfl rfl) (by decide +kernel) (by decide +kernel)
theorem m12_12 (a0 : Int32) : M12 12 ls [.int a0, .ref b] (put b e s A L B g) Q = M13 0 [.val (.ref b), .val (.int a0), .unset, .unset] [] (put b e s A L B g) (fun v H1 => M12 15 ls (v.toList ++ []) H1 Q) := w_virt (as := [.int a0]) (rest := []) (a := b) (dc (.invokevirtual 292, 3)) cr12_292 put_o rfl rfl (Nat.le_of_ble_eq_true rfl) (by show 2 ≤ 4; omega) rfl
theorem m12_15u : M12 15 [l0, .unset, l2, l3] ((.int v) :: st) H Q = M12 16 [l0, .val (.int v), l2, l3] st H Q := w_st (i := 1) (p := isI) (dc (.istore_n 1, 1)) rfl rfl rfl rfl rfl rfl
theorem m12_16 : M12 16 [.val (.ref b), .val (.int v1), l2, l3] st (put b e s A L B g) Q = if v1 < (s 46) then M12 24 [.val (.ref b), .val (.int v1), l2, l3] st (put b e s A L B g) Q else M12 37 [.val (.ref b), .val (.int v1), l2, l3] st (put b e s A L B g) Q := (w_x (dc (.iload_n 1, 1)) rfl).trans ((w_x (dc (.aload_n 0, 1)) rfl).trans ((w_get (dc (.getfield 274, 3)) gf_274 put_o rfl).trans (w_icmpN (dc (.if_icmp .ge 16, 3)) (i_ge v1 (s 46)) rfl)))
theorem m12_24 : M12 24 [.val (.ref b), .val (.int v1), l2, l3] st (put b e s A L B g) Q = (inB v1 (A 19) ∧ M12 31 [.val (.ref b), .val (.int v1), l2, l3] (.int (getA (A 19) v1) :: .ref b :: st) (put b e s A L B g) Q) := (w_x (dc (.aload_n 0, 1)) rfl).trans ((w_x (dc (.aload_n 0, 1)) rfl).trans ((w_get (dc (.getfield 140, 3)) gf_140 put_o rfl).trans ((w_x (dc (.iload_n 1, 1)) rfl).trans (w_ild (dc (.caload, 1)) rfl put_a19))))
theorem cr12_268 : vR tables_1 dn y12 268 = some (true, y14, prog_1_method_23_code, 2, (some .boolean), 1, 28) := pR_of (cR_of (by decide +kernel) rc_14 dn_14 dn_12 (sig := ⟨[.int], some .boolean⟩) (by decide +kernel) (by decide +kernel) rfl rfl) (by decide +kernel) (by decide +kernel)
theorem m12_31 (a0 : Int32) : M12 31 ls [.int a0, .ref b] (put b e s A L B g) Q = M14 0 [.val (.ref b), .val (.int a0)] [] (put b e s A L B g) (fun v H1 => M12 34 ls (v.toList ++ []) H1 Q) := w_virt (as := [.int a0]) (rest := []) (a := b) (dc (.invokevirtual 268, 3)) cr12_268 put_o rfl rfl (Nat.le_of_ble_eq_true rfl) (by show 2 ≤ 2; omega) rfl
theorem m12_34 : M12 34 ls (.int x :: st) H Q = if x = 0 then M12 37 ls st H Q else M12 38 ls st H Q := w_ifN (dc (.ifCond .ne 4, 3)) (z_ne x) rfl
theorem m12_38 : M12 38 [.val (.ref b), .val (.int v1), l2, l3] st H Q = M12 40 [.val (.ref b), .val (.int v1), l2, l3] (.int v1 :: .ref b :: st) H Q := (w_x (dc (.aload_n 0, 1)) rfl).trans (w_x (dc (.iload_n 1, 1)) rfl)
theorem cr12_284 : vR tables_1 dn y12 284 = some (true, y15, prog_1_method_26_code, 4, (some .int), 1, 0) := pR_of (cR_of (by decide +kernel) rc_15 dn_15 dn_12 (sig := ⟨[.int], some .int⟩) (by decide +kernel) (by decide +kernel) rfl rfl) (by decide +kernel) (by decide +kernel)
theorem m12_40 (a0 : Int32) : M12 40 ls [.int a0, .ref b] (put b e s A L B g) Q = M15 0 [.val (.ref b), .val (.int a0), .unset, .unset] [] (put b e s A L B g) (fun v H1 => M12 43 ls (v.toList ++ []) H1 Q) := w_virt (as := [.int a0]) (rest := []) (a := b) (dc (.invokevirtual 284, 3)) cr12_284 put_o rfl rfl (Nat.le_of_ble_eq_true rfl) (by show 2 ≤ 4; omega) rfl
theorem m12_43u : M12 43 [l0, l1, .unset, l3] ((.int v) :: st) H Q = M12 44 [l0, l1, .val (.int v), l3] st H Q := w_st (i := 2) (p := isI) (dc (.istore_n 2, 1)) rfl rfl rfl rfl rfl rfl
theorem m12_44 : M12 44 [.val (.ref b), l1, .val (.int v2), l3] st H Q = M12 46 [.val (.ref b), l1, .val (.int v2), l3] (.int v2 :: .ref b :: st) H Q := (w_x (dc (.aload_n 0, 1)) rfl).trans (w_x (dc (.iload_n 2, 1)) rfl)
theorem m12_46 (a0 : Int32) : M12 46 ls [.int a0, .ref b] (put b e s A L B g) Q = M13 0 [.val (.ref b), .val (.int a0), .unset, .unset] [] (put b e s A L B g) (fun v H1 => M12 49 ls (v.toList ++ []) H1 Q) := w_virt (as := [.int a0]) (rest := []) (a := b) (dc (.invokevirtual 292, 3)) cr12_292 put_o rfl rfl (Nat.le_of_ble_eq_true rfl) (by show 2 ≤ 4; omega) rfl
theorem m12_49u : M12 49 [l0, l1, l2, .unset] ((.int v) :: st) H Q = M12 50 [l0, l1, l2, .val (.int v)] st H Q := w_st (i := 3) (p := isI) (dc (.istore_n 3, 1)) rfl rfl rfl rfl rfl rfl
theorem m12_50 : M12 50 [.val (.ref b), l1, l2, .val (.int v3)] st (put b e s A L B g) Q = if v3 < (s 46) then M12 58 [.val (.ref b), l1, l2, .val (.int v3)] st (put b e s A L B g) Q else M12 91 [.val (.ref b), l1, l2, .val (.int v3)] st (put b e s A L B g) Q := (w_x (dc (.iload_n 3, 1)) rfl).trans ((w_x (dc (.aload_n 0, 1)) rfl).trans ((w_get (dc (.getfield 274, 3)) gf_274 put_o rfl).trans (w_icmpN (dc (.if_icmp .ge 36, 3)) (i_ge v3 (s 46)) rfl)))
theorem m12_58 : M12 58 [.val (.ref b), l1, l2, .val (.int v3)] st (put b e s A L B g) Q = (inB v3 (A 19) ∧ M12 64 [.val (.ref b), l1, l2, .val (.int v3)] (.int (getA (A 19) v3) :: st) (put b e s A L B g) Q) := (w_x (dc (.aload_n 0, 1)) rfl).trans ((w_get (dc (.getfield 140, 3)) gf_140 put_o rfl).trans ((w_x (dc (.iload_n 3, 1)) rfl).trans (w_ild (dc (.caload, 1)) rfl put_a19)))
theorem m12_64 : M12 64 ls st H Q = M12 66 ls (.int 58 :: st) H Q := w_con (dc (.bipush 58, 2)) rfl (by decide)
theorem m12_66 : M12 66 ls (.int y :: .int x :: st) H Q = if x = y then M12 69 ls st H Q else M12 91 ls st H Q := w_icmpN (dc (.if_icmp .ne 25, 3)) (i_ne x y) rfl
theorem m12_69 : M12 69 [.val (.ref b), l1, l2, l3] st (put b e s A L B g) Q = M12 74 [.val (.ref b), l1, l2, l3] st (put b e (ou s 47 (nar .boolean 1)) A L B g) Q := (w_x (dc (.aload_n 0, 1)) rfl).trans ((w_ki 1 (dc (.iconst 1, 1)) rfl).trans (w_put (dc (.putfield 421, 3)) pf12_421 put_o (Nat.zero_le _) (by show 81 < 90; omega) rfl put_s47))
theorem m12_74 : M12 74 [.val (.ref b), .val (.int v1), .val (.int v2), l3] st H Q = M12 78 [.val (.ref b), .val (.int v1), .val (.int v2), l3] (.int v2 :: .int v1 :: .ref b :: .ref b :: st) H Q := (w_x (dc (.aload_n 0, 1)) rfl).trans ((w_x (dc (.aload_n 0, 1)) rfl).trans ((w_x (dc (.iload_n 1, 1)) rfl).trans (w_x (dc (.iload_n 2, 1)) rfl)))
theorem cr12_288 : vR tables_1 dn y12 288 = some (true, y18, prog_1_method_27_code, 6, (some .long), 2, 24) := pR_of (cR_of (by decide +kernel) rc_18 dn_18 dn_12 (sig := ⟨[.int, .int], some .long⟩) (by decide +kernel) (by decide +kernel) rfl rfl) (by decide +kernel) (by decide +kernel)
theorem m12_78 (a0 : Int32) (a1 : Int32) (u0 : Nat) : M12 78 ls [.int a1, .int a0, .ref b, .ref u0] (put b e s A L B g) Q = M18 0 [.val (.ref b), .val (.int a0), .val (.int a1), .unset, .unset, .unset] [] (put b e s A L B g) (fun v H1 => M12 81 ls (v.toList ++ [.ref u0]) H1 Q) := w_virt (as := [.int a1, .int a0]) (rest := [.ref u0]) (a := b) (dc (.invokevirtual 288, 3)) cr12_288 put_o rfl rfl (Nat.le_of_ble_eq_true rfl) (by show 3 ≤ 6; omega) rfl
theorem pf12_424 : pfR tables_1 y12.cls y12.name 424 = some ("MacroAssembler", 85, .long) := by decide +kernel
theorem m12_81 : M12 81 ls (.long J1 :: .ref b :: st) (put b e s A L B g) Q = M12 84 ls st (put b e s A (ou L 0 J1) B g) Q := w_put (dc (.putfield 424, 3)) pf12_424 put_o (Nat.zero_le _) (by show 85 < 90; omega) rfl put_j0
theorem m12_84 : M12 84 [.val (.ref b), l1, l2, .val (.int v3)] st (put b e s A L B g) Q = M12 91 [.val (.ref b), l1, l2, .val (.int v3)] st (put b e (ou s 48 (v3 + 1)) A L B g) Q := (w_x (dc (.aload_n 0, 1)) rfl).trans ((w_x (dc (.iload_n 3, 1)) rfl).trans ((w_ki 1 (dc (.iconst 1, 1)) rfl).trans ((w_x (dc (.iadd, 1)) rfl).trans (w_put (dc (.putfield 400, 3)) pf12_400 put_o (Nat.zero_le _) (by show 82 < 90; omega) rfl put_s48))))
theorem m12_91 : M12 91 ls [] H Q = Q none H := w_vret (dc (.return_, 1)) rfl
theorem m13_0 : M13 0 [l0, .val (.int v1), .unset, .unset] st H Q = M13 4 [l0, .val (.int v1), .val (.int v1), .val (.int 0)] st H Q := (w_x (dc (.iload_n 1, 1)) rfl).trans ((w_st (i := 2) (p := isI) (dc (.istore_n 2, 1)) rfl rfl rfl rfl rfl rfl).trans ((w_ki 0 (dc (.iconst 0, 1)) rfl).trans (w_st (i := 3) (p := isI) (dc (.istore_n 3, 1)) rfl rfl rfl rfl rfl rfl)))
theorem m13_4 : M13 4 [l0, l1, l2, .val (.int v3)] st H Q = if v3 < 641 then M13 11 [l0, l1, l2, .val (.int v3)] st H Q else M13 39 [l0, l1, l2, .val (.int v3)] st H Q := (w_x (dc (.iload_n 3, 1)) rfl).trans ((w_ki 641 (dc (.sipush 641, 3)) rfl).trans (w_icmpN (dc (.if_icmp .ge 31, 3)) (i_ge v3 641) rfl))
theorem m13_11 : M13 11 [.val (.ref b), l1, .val (.int v2), l3] st (put b e s A L B g) Q = if v2 < (s 46) then M13 19 [.val (.ref b), l1, .val (.int v2), l3] st (put b e s A L B g) Q else M13 39 [.val (.ref b), l1, .val (.int v2), l3] st (put b e s A L B g) Q := (w_x (dc (.iload_n 2, 1)) rfl).trans ((w_x (dc (.aload_n 0, 1)) rfl).trans ((w_get (dc (.getfield 274, 3)) gf_274 put_o rfl).trans (w_icmpN (dc (.if_icmp .ge 23, 3)) (i_ge v2 (s 46)) rfl)))
theorem m13_19 : M13 19 [.val (.ref b), l1, .val (.int v2), l3] st (put b e s A L B g) Q = (inB v2 (A 19) ∧ M13 25 [.val (.ref b), l1, .val (.int v2), l3] (.int (getA (A 19) v2) :: st) (put b e s A L B g) Q) := (w_x (dc (.aload_n 0, 1)) rfl).trans ((w_get (dc (.getfield 140, 3)) gf_140 put_o rfl).trans ((w_x (dc (.iload_n 2, 1)) rfl).trans (w_ild (dc (.caload, 1)) rfl put_a19)))
theorem m13_25 : M13 25 ls st H Q = M13 27 ls (.int 32 :: st) H Q := w_con (dc (.bipush 32, 2)) rfl (by decide)
theorem m13_27 : M13 27 ls (.int y :: .int x :: st) H Q = if x = y then M13 30 ls st H Q else M13 39 ls st H Q := w_icmpN (dc (.if_icmp .ne 12, 3)) (i_ne x y) rfl
theorem m13_30 : M13 30 [l0, l1, .val (.int v2), .val (.int v3)] st H Q = M13 4 [l0, l1, .val (.int (v2 + 1)), .val (.int (v3 + 1))] st H Q := (w_iinc (dc (.iinc 2 1, 3)) rfl (by decide) rfl).trans ((w_iinc (dc (.iinc 3 1, 3)) rfl (by decide) rfl).trans (w_x (dc (.goto (-32), 3)) rfl))
theorem m13_39 : M13 39 [l0, l1, .val (.int v), l3] st H Q = M13 40 [l0, l1, .val (.int v), l3] (.int v :: st) H Q := w_x (dc (.iload_n 2, 1)) rfl
theorem m13_40 : M13 40 ls (.int z :: st) H Q = Q (some (.int z)) H := w_iret (dc (.ireturn, 1)) rfl
theorem m14_0 : M14 0 [l0, .val (.int v1)] st H Q = if v1 < 65 then M14 12 [l0, .val (.int v1)] st H Q else M14 6 [l0, .val (.int v1)] st H Q := (w_x (dc (.iload_n 1, 1)) rfl).trans ((w_ki 65 (dc (.bipush 65, 2)) rfl).trans (w_icmp (dc (.if_icmp .lt 9, 3)) (i_lt v1 65) rfl))
theorem m14_6 : M14 6 [l0, .val (.int v1)] st H Q = if 90 < v1 then M14 12 [l0, .val (.int v1)] st H Q else M14 30 [l0, .val (.int v1)] st H Q := (w_x (dc (.iload_n 1, 1)) rfl).trans ((w_ki 90 (dc (.bipush 90, 2)) rfl).trans (w_icmpN (dc (.if_icmp .le 21, 3)) (i_le v1 90) rfl))
theorem m14_12 : M14 12 [l0, .val (.int v1)] st H Q = if v1 < 97 then M14 24 [l0, .val (.int v1)] st H Q else M14 18 [l0, .val (.int v1)] st H Q := (w_x (dc (.iload_n 1, 1)) rfl).trans ((w_ki 97 (dc (.bipush 97, 2)) rfl).trans (w_icmp (dc (.if_icmp .lt 9, 3)) (i_lt v1 97) rfl))
theorem m14_24 : M14 24 [l0, .val (.int v1)] st H Q = if v1 = 95 then M14 30 [l0, .val (.int v1)] st H Q else M14 34 [l0, .val (.int v1)] st H Q := (w_x (dc (.iload_n 1, 1)) rfl).trans ((w_ki 95 (dc (.bipush 95, 2)) rfl).trans (w_icmpN (dc (.if_icmp .ne 7, 3)) (i_ne v1 95) rfl))
theorem m14_30 : M14 30 [l0, l1] st H Q = M14 35 [l0, l1] (.int 1 :: st) H Q := (w_ki 1 (dc (.iconst 1, 1)) rfl).trans (w_x (dc (.goto 4, 3)) rfl)
theorem m14_34 : M14 34 ls st H Q = M14 35 ls (.int 0 :: st) H Q := w_con (dc (.iconst 0, 1)) rfl (by decide)
theorem m14_35 : M14 35 ls (.int z :: st) H Q = Q (some (.int (nar .boolean z))) H := w_iretN (dc (.ireturn, 1)) rfl (by simp)
theorem m15_0 : M15 0 [l0, .val (.int v1), .unset, .unset] st H Q = M15 4 [l0, .val (.int v1), .val (.int v1), .val (.int 0)] st H Q := (w_x (dc (.iload_n 1, 1)) rfl).trans ((w_st (i := 2) (p := isI) (dc (.istore_n 2, 1)) rfl rfl rfl rfl rfl rfl).trans ((w_ki 0 (dc (.iconst 0, 1)) rfl).trans (w_st (i := 3) (p := isI) (dc (.istore_n 3, 1)) rfl rfl rfl rfl rfl rfl)))
theorem m15_4 : M15 4 [l0, l1, l2, .val (.int v3)] st H Q = if v3 < 641 then M15 11 [l0, l1, l2, .val (.int v3)] st H Q else M15 41 [l0, l1, l2, .val (.int v3)] st H Q := (w_x (dc (.iload_n 3, 1)) rfl).trans ((w_ki 641 (dc (.sipush 641, 3)) rfl).trans (w_icmpN (dc (.if_icmp .ge 33, 3)) (i_ge v3 641) rfl))
theorem m15_11 : M15 11 [.val (.ref b), l1, .val (.int v2), l3] st (put b e s A L B g) Q = if v2 < (s 46) then M15 19 [.val (.ref b), l1, .val (.int v2), l3] st (put b e s A L B g) Q else M15 41 [.val (.ref b), l1, .val (.int v2), l3] st (put b e s A L B g) Q := (w_x (dc (.iload_n 2, 1)) rfl).trans ((w_x (dc (.aload_n 0, 1)) rfl).trans ((w_get (dc (.getfield 274, 3)) gf_274 put_o rfl).trans (w_icmpN (dc (.if_icmp .ge 25, 3)) (i_ge v2 (s 46)) rfl)))
theorem m15_19 : M15 19 [.val (.ref b), l1, .val (.int v2), l3] st (put b e s A L B g) Q = (inB v2 (A 19) ∧ M15 26 [.val (.ref b), l1, .val (.int v2), l3] (.int (getA (A 19) v2) :: .ref b :: st) (put b e s A L B g) Q) := (w_x (dc (.aload_n 0, 1)) rfl).trans ((w_x (dc (.aload_n 0, 1)) rfl).trans ((w_get (dc (.getfield 140, 3)) gf_140 put_o rfl).trans ((w_x (dc (.iload_n 2, 1)) rfl).trans (w_ild (dc (.caload, 1)) rfl put_a19))))
theorem cr15_277 : vR tables_1 dn y15 277 = some (true, y16, prog_1_method_24_code, 2, (some .boolean), 1, 0) := pR_of (cR_of (by decide +kernel) rc_16 dn_16 dn_15 (sig := ⟨[.int], some .boolean⟩) (by decide +kernel) (by decide +kernel) rfl rfl) (by decide +kernel) (by decide +kernel)
theorem m15_26 (a0 : Int32) : M15 26 ls [.int a0, .ref b] (put b e s A L B g) Q = M16 0 [.val (.ref b), .val (.int a0)] [] (put b e s A L B g) (fun v H1 => M15 29 ls (v.toList ++ []) H1 Q) := w_virt (as := [.int a0]) (rest := []) (a := b) (dc (.invokevirtual 277, 3)) cr15_277 put_o rfl rfl (Nat.le_of_ble_eq_true rfl) (by show 2 ≤ 2; omega) rfl
theorem m15_29 : M15 29 ls (.int x :: st) H Q = if x = 0 then M15 41 ls st H Q else M15 32 ls st H Q := w_if (dc (.ifCond .eq 12, 3)) (z_eq x) rfl
theorem m15_32 : M15 32 [l0, l1, .val (.int v2), .val (.int v3)] st H Q = M15 4 [l0, l1, .val (.int (v2 + 1)), .val (.int (v3 + 1))] st H Q := (w_iinc (dc (.iinc 2 1, 3)) rfl (by decide) rfl).trans ((w_iinc (dc (.iinc 3 1, 3)) rfl (by decide) rfl).trans (w_x (dc (.goto (-34), 3)) rfl))
theorem m15_41 : M15 41 [l0, l1, .val (.int v), l3] st H Q = M15 42 [l0, l1, .val (.int v), l3] (.int v :: st) H Q := w_x (dc (.iload_n 2, 1)) rfl
theorem m15_42 : M15 42 ls (.int z :: st) H Q = Q (some (.int z)) H := w_iret (dc (.ireturn, 1)) rfl
theorem m16_0 : M16 0 [.val (.ref b), .val (.int v1)] st H Q = M16 2 [.val (.ref b), .val (.int v1)] (.int v1 :: .ref b :: st) H Q := (w_x (dc (.aload_n 0, 1)) rfl).trans (w_x (dc (.iload_n 1, 1)) rfl)
theorem cr16_268 : vR tables_1 dn y16 268 = some (true, y14, prog_1_method_23_code, 2, (some .boolean), 1, 0) := pR_of (cR_of (by decide +kernel) rc_14 dn_14 dn_16 (sig := ⟨[.int], some .boolean⟩) (by decide +kernel) (by decide +kernel) rfl rfl) (by decide +kernel) (by decide +kernel)
theorem m16_2 (a0 : Int32) : M16 2 ls [.int a0, .ref b] (put b e s A L B g) Q = M14 0 [.val (.ref b), .val (.int a0)] [] (put b e s A L B g) (fun v H1 => M16 5 ls (v.toList ++ []) H1 Q) := w_virt (as := [.int a0]) (rest := []) (a := b) (dc (.invokevirtual 268, 3)) cr16_268 put_o rfl rfl (Nat.le_of_ble_eq_true rfl) (by show 2 ≤ 2; omega) rfl
theorem m16_5 : M16 5 ls (.int x :: st) H Q = if x = 0 then M16 8 ls st H Q else M16 16 ls st H Q := w_ifN (dc (.ifCond .ne 11, 3)) (z_ne x) rfl
theorem m16_8 : M16 8 [.val (.ref b), .val (.int v1)] st H Q = M16 10 [.val (.ref b), .val (.int v1)] (.int v1 :: .ref b :: st) H Q := (w_x (dc (.aload_n 0, 1)) rfl).trans (w_x (dc (.iload_n 1, 1)) rfl)
theorem cr16_271 : vR tables_1 dn y16 271 = some (true, y17, prog_1_method_22_code, 2, (some .boolean), 1, 0) := pR_of (cR_of (by decide +kernel) rc_17 dn_17 dn_16 (sig := ⟨[.int], some .boolean⟩) (by decide +kernel) (by decide +kernel) rfl rfl) (by decide +kernel) (by decide +kernel)
theorem m16_10 (a0 : Int32) : M16 10 ls [.int a0, .ref b] (put b e s A L B g) Q = M17 0 [.val (.ref b), .val (.int a0)] [] (put b e s A L B g) (fun v H1 => M16 13 ls (v.toList ++ []) H1 Q) := w_virt (as := [.int a0]) (rest := []) (a := b) (dc (.invokevirtual 271, 3)) cr16_271 put_o rfl rfl (Nat.le_of_ble_eq_true rfl) (by show 2 ≤ 2; omega) rfl
theorem m16_13 : M16 13 ls (.int x :: st) H Q = if x = 0 then M16 20 ls st H Q else M16 16 ls st H Q := w_if (dc (.ifCond .eq 7, 3)) (z_eq x) rfl
theorem m16_16 : M16 16 [l0, l1] st H Q = M16 21 [l0, l1] (.int 1 :: st) H Q := (w_ki 1 (dc (.iconst 1, 1)) rfl).trans (w_x (dc (.goto 4, 3)) rfl)
theorem m16_20 : M16 20 ls st H Q = M16 21 ls (.int 0 :: st) H Q := w_con (dc (.iconst 0, 1)) rfl (by decide)
theorem m16_21 : M16 21 ls (.int z :: st) H Q = Q (some (.int (nar .boolean z))) H := w_iretN (dc (.ireturn, 1)) rfl (by simp)
theorem m17_0 : M17 0 [l0, .val (.int v1)] st H Q = if v1 < 48 then M17 16 [l0, .val (.int v1)] st H Q else M17 6 [l0, .val (.int v1)] st H Q := (w_x (dc (.iload_n 1, 1)) rfl).trans ((w_ki 48 (dc (.bipush 48, 2)) rfl).trans (w_icmp (dc (.if_icmp .lt 13, 3)) (i_lt v1 48) rfl))
theorem m17_6 : M17 6 [l0, .val (.int v1)] st H Q = if 57 < v1 then M17 16 [l0, .val (.int v1)] st H Q else M17 12 [l0, .val (.int v1)] st H Q := (w_x (dc (.iload_n 1, 1)) rfl).trans ((w_ki 57 (dc (.bipush 57, 2)) rfl).trans (w_icmp (dc (.if_icmp .gt 7, 3)) (i_gt v1 57) rfl))
theorem m17_12 : M17 12 [l0, l1] st H Q = M17 17 [l0, l1] (.int 1 :: st) H Q := (w_ki 1 (dc (.iconst 1, 1)) rfl).trans (w_x (dc (.goto 4, 3)) rfl)
theorem m17_16 : M17 16 ls st H Q = M17 17 ls (.int 0 :: st) H Q := w_con (dc (.iconst 0, 1)) rfl (by decide)
theorem m17_17 : M17 17 ls (.int z :: st) H Q = Q (some (.int (nar .boolean z))) H := w_iretN (dc (.ireturn, 1)) rfl (by simp)
theorem m18_0 : M18 0 [l0, .val (.int v1), .val (.int v2), l3, l4, l5] st H Q = if 8 < (v2 - v1) then M18 13 [l0, .val (.int v1), .val (.int v2), l3, l4, l5] st H Q else M18 8 [l0, .val (.int v1), .val (.int v2), l3, l4, l5] st H Q := (w_x (dc (.iload_n 2, 1)) rfl).trans ((w_x (dc (.iload_n 1, 1)) rfl).trans ((w_x (dc (.isub, 1)) rfl).trans ((w_ki 8 (dc (.bipush 8, 2)) rfl).trans (w_icmp (dc (.if_icmp .gt 8, 3)) (i_gt (v2 - v1) 8) rfl))))
theorem m18_8 : M18 8 [l0, .val (.int v1), .val (.int v2), l3, l4, l5] st H Q = if v1 < v2 then M18 17 [l0, .val (.int v1), .val (.int v2), l3, l4, l5] st H Q else M18 13 [l0, .val (.int v1), .val (.int v2), l3, l4, l5] st H Q := (w_x (dc (.iload_n 2, 1)) rfl).trans ((w_x (dc (.iload_n 1, 1)) rfl).trans (w_icmp (dc (.if_icmp .gt 7, 3)) (i_gt v2 v1) rfl))
theorem m18_17 : M18 17 ls st H Q = M18 18 ls (.long 0 :: st) H Q := w_con (dc (.lconst 0, 1)) rfl (by decide)
theorem m18_18 : M18 18 [l0, l1, l2, .unset, .unset, l5] (.long J1 :: st) H Q = M18 19 [l0, l1, l2, .val (.long J1), .second, l5] st H Q := w_x (dc (.lstore_n 3, 1)) rfl
theorem m18_19 : M18 19 [l0, .val (.int v1), l2, l3, l4, .unset] st H Q = M18 22 [l0, .val (.int v1), l2, l3, l4, .val (.int v1)] st H Q := (w_x (dc (.iload_n 1, 1)) rfl).trans (w_st (i := 5) (p := isI) (dc (.istore 5, 2)) rfl rfl rfl rfl rfl rfl)
theorem m18_22 : M18 22 [l0, l1, .val (.int v2), l3, l4, .val (.int v5)] st H Q = if v5 < v2 then M18 28 [l0, l1, .val (.int v2), l3, l4, .val (.int v5)] st H Q else M18 58 [l0, l1, .val (.int v2), l3, l4, .val (.int v5)] st H Q := (w_x (dc (.iload 5, 2)) rfl).trans ((w_x (dc (.iload_n 2, 1)) rfl).trans (w_icmpN (dc (.if_icmp .ge 33, 3)) (i_ge v5 v2) rfl))
theorem m18_28 : M18 28 [.val (.ref b), l1, l2, l3, l4, .val (.int v5)] st (put b e s A L B g) Q = if v5 < (s 46) then M18 37 [.val (.ref b), l1, l2, l3, l4, .val (.int v5)] st (put b e s A L B g) Q else M18 58 [.val (.ref b), l1, l2, l3, l4, .val (.int v5)] st (put b e s A L B g) Q := (w_x (dc (.iload 5, 2)) rfl).trans ((w_x (dc (.aload_n 0, 1)) rfl).trans ((w_get (dc (.getfield 274, 3)) gf_274 put_o rfl).trans (w_icmpN (dc (.if_icmp .ge 24, 3)) (i_ge v5 (s 46)) rfl)))
theorem m18_37 : M18 37 [.val (.ref b), l1, l2, .val (.long w3), l4, .val (.int v5)] st (put b e s A L B g) Q = (inB v5 (A 19) ∧ M18 49 [.val (.ref b), l1, l2, .val (.long w3), l4, .val (.int v5)] (.int (getA (A 19) v5) :: .long (w3 * 128) :: st) (put b e s A L B g) Q) := (w_x (dc (.lload_n 3, 1)) rfl).trans ((w_ldc2 (v := 128) (dc (.ldc2_w 282, 3)) (by decide +kernel)).trans ((w_x (dc (.lmul, 1)) rfl).trans ((w_x (dc (.aload_n 0, 1)) rfl).trans ((w_get (dc (.getfield 140, 3)) gf_140 put_o rfl).trans ((w_x (dc (.iload 5, 2)) rfl).trans (w_ild (dc (.caload, 1)) rfl put_a19))))))
theorem m18_49 : M18 49 ls (.int x :: st) H Q = M18 50 ls (.long x.toInt64 :: st) H Q := w_x (dc (.i2l, 1)) rfl
theorem m18_50 : M18 50 ls (.long J2 :: .long J1 :: st) H Q = M18 51 ls (.long (J1 + J2) :: st) H Q := w_x (dc (.ladd, 1)) rfl
theorem m18_51 : M18 51 [l0, l1, l2, .val (.long J2), .second, l5] (.long J1 :: st) H Q = M18 52 [l0, l1, l2, .val (.long J1), .second, l5] st H Q := w_x (dc (.lstore_n 3, 1)) rfl
theorem m18_52 : M18 52 [l0, l1, l2, l3, l4, .val (.int v5)] st H Q = M18 22 [l0, l1, l2, l3, l4, .val (.int (v5 + 1))] st H Q := (w_iinc (dc (.iinc 5 1, 3)) rfl (by decide) rfl).trans (w_x (dc (.goto (-33), 3)) rfl)
theorem m18_58 : M18 58 [l0, l1, l2, .val (.long J1), l4, l5] st H Q = M18 59 [l0, l1, l2, .val (.long J1), l4, l5] (.long J1 :: st) H Q := w_x (dc (.lload_n 3, 1)) rfl
theorem m18_59 : M18 59 ls [.long J1] H Q = Q (some (.long J1)) H := w_lret (dc (.lreturn, 1)) rfl
theorem m19_0 : M19 0 [l0, .val (.int v1), l2] st H Q = if v1 < 0 then M19 25 [l0, .val (.int v1), l2] st H Q else M19 4 [l0, .val (.int v1), l2] st H Q := (w_x (dc (.iload_n 1, 1)) rfl).trans (w_if (dc (.ifCond .lt 24, 3)) (z_lt v1) rfl)
theorem m19_4 : M19 4 [.val (.ref b), .val (.int v1), l2] st (put b e s A L B g) Q = if v1 < (s 46) then M19 12 [.val (.ref b), .val (.int v1), l2] st (put b e s A L B g) Q else M19 25 [.val (.ref b), .val (.int v1), l2] st (put b e s A L B g) Q := (w_x (dc (.iload_n 1, 1)) rfl).trans ((w_x (dc (.aload_n 0, 1)) rfl).trans ((w_get (dc (.getfield 274, 3)) gf_274 put_o rfl).trans (w_icmpN (dc (.if_icmp .ge 16, 3)) (i_ge v1 (s 46)) rfl)))
theorem m19_12 : M19 12 [.val (.ref b), .val (.int v1), l2] st (put b e s A L B g) Q = (inB v1 (A 19) ∧ M19 19 [.val (.ref b), .val (.int v1), l2] (.int (getA (A 19) v1) :: .ref b :: st) (put b e s A L B g) Q) := (w_x (dc (.aload_n 0, 1)) rfl).trans ((w_x (dc (.aload_n 0, 1)) rfl).trans ((w_get (dc (.getfield 140, 3)) gf_140 put_o rfl).trans ((w_x (dc (.iload_n 1, 1)) rfl).trans (w_ild (dc (.caload, 1)) rfl put_a19))))
theorem cr19_268 : vR tables_1 dn y19 268 = some (true, y14, prog_1_method_23_code, 2, (some .boolean), 1, 28) := pR_of (cR_of (by decide +kernel) rc_14 dn_14 dn_19 (sig := ⟨[.int], some .boolean⟩) (by decide +kernel) (by decide +kernel) rfl rfl) (by decide +kernel) (by decide +kernel)
theorem m19_19 (a0 : Int32) : M19 19 ls [.int a0, .ref b] (put b e s A L B g) Q = M14 0 [.val (.ref b), .val (.int a0)] [] (put b e s A L B g) (fun v H1 => M19 22 ls (v.toList ++ []) H1 Q) := w_virt (as := [.int a0]) (rest := []) (a := b) (dc (.invokevirtual 268, 3)) cr19_268 put_o rfl rfl (Nat.le_of_ble_eq_true rfl) (by show 2 ≤ 2; omega) rfl
theorem m19_22 : M19 22 ls (.int x :: st) H Q = if x = 0 then M19 25 ls st H Q else M19 29 ls st H Q := w_ifN (dc (.ifCond .ne 7, 3)) (z_ne x) rfl
theorem m19_25 : M19 25 ls st H Q = M19 28 ls (.long (-1) :: st) H Q := w_ldc2 (dc (.ldc2_w 280, 3)) (by decide +kernel)
theorem m19_28 : M19 28 ls [.long J1] H Q = Q (some (.long J1)) H := w_lret (dc (.lreturn, 1)) rfl
theorem m19_29 : M19 29 [.val (.ref b), .val (.int v1), l2] st H Q = M19 31 [.val (.ref b), .val (.int v1), l2] (.int v1 :: .ref b :: st) H Q := (w_x (dc (.aload_n 0, 1)) rfl).trans (w_x (dc (.iload_n 1, 1)) rfl)
theorem cr19_284 : vR tables_1 dn y19 284 = some (true, y15, prog_1_method_26_code, 4, (some .int), 1, 0) := pR_of (cR_of (by decide +kernel) rc_15 dn_15 dn_19 (sig := ⟨[.int], some .int⟩) (by decide +kernel) (by decide +kernel) rfl rfl) (by decide +kernel) (by decide +kernel)
theorem m19_31 (a0 : Int32) : M19 31 ls [.int a0, .ref b] (put b e s A L B g) Q = M15 0 [.val (.ref b), .val (.int a0), .unset, .unset] [] (put b e s A L B g) (fun v H1 => M19 34 ls (v.toList ++ []) H1 Q) := w_virt (as := [.int a0]) (rest := []) (a := b) (dc (.invokevirtual 284, 3)) cr19_284 put_o rfl rfl (Nat.le_of_ble_eq_true rfl) (by show 2 ≤ 4; omega) rfl
theorem m19_34u : M19 34 [l0, l1, .unset] ((.int v) :: st) H Q = M19 35 [l0, l1, .val (.int v)] st H Q := w_st (i := 2) (p := isI) (dc (.istore_n 2, 1)) rfl rfl rfl rfl rfl rfl
theorem m19_35 : M19 35 [.val (.ref b), .val (.int v1), .val (.int v2)] st H Q = M19 38 [.val (.ref b), .val (.int v1), .val (.int v2)] (.int v2 :: .int v1 :: .ref b :: st) H Q := (w_x (dc (.aload_n 0, 1)) rfl).trans ((w_x (dc (.iload_n 1, 1)) rfl).trans (w_x (dc (.iload_n 2, 1)) rfl))
theorem cr19_288 : vR tables_1 dn y19 288 = some (true, y18, prog_1_method_27_code, 6, (some .long), 2, 24) := pR_of (cR_of (by decide +kernel) rc_18 dn_18 dn_19 (sig := ⟨[.int, .int], some .long⟩) (by decide +kernel) (by decide +kernel) rfl rfl) (by decide +kernel) (by decide +kernel)
theorem m19_38 (a0 : Int32) (a1 : Int32) : M19 38 ls [.int a1, .int a0, .ref b] (put b e s A L B g) Q = M18 0 [.val (.ref b), .val (.int a0), .val (.int a1), .unset, .unset, .unset] [] (put b e s A L B g) (fun v H1 => M19 41 ls (v.toList ++ []) H1 Q) := w_virt (as := [.int a1, .int a0]) (rest := []) (a := b) (dc (.invokevirtual 288, 3)) cr19_288 put_o rfl rfl (Nat.le_of_ble_eq_true rfl) (by show 3 ≤ 6; omega) rfl
theorem m19_41 : M19 41 ls [.long J1] H Q = Q (some (.long J1)) H := w_lret (dc (.lreturn, 1)) rfl
theorem m20_0 : M20 0 [l0, .val (.int v)] st H Q = M20 1 [l0, .val (.int v)] (.int v :: st) H Q := w_x (dc (.iload_n 1, 1)) rfl
theorem m20_1_0 : M20 1 ls (.int 0 :: st) H Q = M20 92 ls st H Q := w_x (dc (.tableswitch 343 0 18 #[91, 104, 117, 130, 143, 156, 169, 182, 195, 208, 220, 232, 245, 260, 274, 286, 300, 315, 329], 91)) rfl
theorem m20_1_1 : M20 1 ls (.int 1 :: st) H Q = M20 105 ls st H Q := w_x (dc (.tableswitch 343 0 18 #[91, 104, 117, 130, 143, 156, 169, 182, 195, 208, 220, 232, 245, 260, 274, 286, 300, 315, 329], 91)) rfl
theorem m20_1_2 : M20 1 ls (.int 2 :: st) H Q = M20 118 ls st H Q := w_x (dc (.tableswitch 343 0 18 #[91, 104, 117, 130, 143, 156, 169, 182, 195, 208, 220, 232, 245, 260, 274, 286, 300, 315, 329], 91)) rfl
theorem m20_1_3 : M20 1 ls (.int 3 :: st) H Q = M20 131 ls st H Q := w_x (dc (.tableswitch 343 0 18 #[91, 104, 117, 130, 143, 156, 169, 182, 195, 208, 220, 232, 245, 260, 274, 286, 300, 315, 329], 91)) rfl
theorem m20_1_4 : M20 1 ls (.int 4 :: st) H Q = M20 144 ls st H Q := w_x (dc (.tableswitch 343 0 18 #[91, 104, 117, 130, 143, 156, 169, 182, 195, 208, 220, 232, 245, 260, 274, 286, 300, 315, 329], 91)) rfl
theorem m20_1_5 : M20 1 ls (.int 5 :: st) H Q = M20 157 ls st H Q := w_x (dc (.tableswitch 343 0 18 #[91, 104, 117, 130, 143, 156, 169, 182, 195, 208, 220, 232, 245, 260, 274, 286, 300, 315, 329], 91)) rfl
theorem m20_1_6 : M20 1 ls (.int 6 :: st) H Q = M20 170 ls st H Q := w_x (dc (.tableswitch 343 0 18 #[91, 104, 117, 130, 143, 156, 169, 182, 195, 208, 220, 232, 245, 260, 274, 286, 300, 315, 329], 91)) rfl
theorem m20_1_7 : M20 1 ls (.int 7 :: st) H Q = M20 183 ls st H Q := w_x (dc (.tableswitch 343 0 18 #[91, 104, 117, 130, 143, 156, 169, 182, 195, 208, 220, 232, 245, 260, 274, 286, 300, 315, 329], 91)) rfl
theorem m20_1_8 : M20 1 ls (.int 8 :: st) H Q = M20 196 ls st H Q := w_x (dc (.tableswitch 343 0 18 #[91, 104, 117, 130, 143, 156, 169, 182, 195, 208, 220, 232, 245, 260, 274, 286, 300, 315, 329], 91)) rfl
theorem m20_1_9 : M20 1 ls (.int 9 :: st) H Q = M20 209 ls st H Q := w_x (dc (.tableswitch 343 0 18 #[91, 104, 117, 130, 143, 156, 169, 182, 195, 208, 220, 232, 245, 260, 274, 286, 300, 315, 329], 91)) rfl
theorem m20_1_10 : M20 1 ls (.int 10 :: st) H Q = M20 221 ls st H Q := w_x (dc (.tableswitch 343 0 18 #[91, 104, 117, 130, 143, 156, 169, 182, 195, 208, 220, 232, 245, 260, 274, 286, 300, 315, 329], 91)) rfl
theorem m20_1_11 : M20 1 ls (.int 11 :: st) H Q = M20 233 ls st H Q := w_x (dc (.tableswitch 343 0 18 #[91, 104, 117, 130, 143, 156, 169, 182, 195, 208, 220, 232, 245, 260, 274, 286, 300, 315, 329], 91)) rfl
theorem m20_1_12 : M20 1 ls (.int 12 :: st) H Q = M20 246 ls st H Q := w_x (dc (.tableswitch 343 0 18 #[91, 104, 117, 130, 143, 156, 169, 182, 195, 208, 220, 232, 245, 260, 274, 286, 300, 315, 329], 91)) rfl
theorem m20_1_13 : M20 1 ls (.int 13 :: st) H Q = M20 261 ls st H Q := w_x (dc (.tableswitch 343 0 18 #[91, 104, 117, 130, 143, 156, 169, 182, 195, 208, 220, 232, 245, 260, 274, 286, 300, 315, 329], 91)) rfl
theorem m20_1_14 : M20 1 ls (.int 14 :: st) H Q = M20 275 ls st H Q := w_x (dc (.tableswitch 343 0 18 #[91, 104, 117, 130, 143, 156, 169, 182, 195, 208, 220, 232, 245, 260, 274, 286, 300, 315, 329], 91)) rfl
theorem m20_1_15 : M20 1 ls (.int 15 :: st) H Q = M20 287 ls st H Q := w_x (dc (.tableswitch 343 0 18 #[91, 104, 117, 130, 143, 156, 169, 182, 195, 208, 220, 232, 245, 260, 274, 286, 300, 315, 329], 91)) rfl
theorem m20_1_16 : M20 1 ls (.int 16 :: st) H Q = M20 301 ls st H Q := w_x (dc (.tableswitch 343 0 18 #[91, 104, 117, 130, 143, 156, 169, 182, 195, 208, 220, 232, 245, 260, 274, 286, 300, 315, 329], 91)) rfl
theorem m20_1_17 : M20 1 ls (.int 17 :: st) H Q = M20 316 ls st H Q := w_x (dc (.tableswitch 343 0 18 #[91, 104, 117, 130, 143, 156, 169, 182, 195, 208, 220, 232, 245, 260, 274, 286, 300, 315, 329], 91)) rfl
theorem m20_1_18 : M20 1 ls (.int 18 :: st) H Q = M20 330 ls st H Q := w_x (dc (.tableswitch 343 0 18 #[91, 104, 117, 130, 143, 156, 169, 182, 195, 208, 220, 232, 245, 260, 274, 286, 300, 315, 329], 91)) rfl
theorem m20_1_d (hx : x.toInt < 0 ∨ x.toInt > 18) : M20 1 ls (.int x :: st) H Q = M20 344 ls st H Q := w_x (dc (.tableswitch 343 0 18 #[91, 104, 117, 130, 143, 156, 169, 182, 195, 208, 220, 232, 245, 260, 274, 286, 300, 315, 329], 91)) (by simp only [xstep, sw, hx, if_true]; rfl)
theorem m20_92 : M20 92 [.val (.ref b), l1] st H Q = M20 101 [.val (.ref b), l1] (.int 0 :: .int 0 :: .int 80 :: .int 79 :: .int 78 :: .ref b :: st) H Q := (w_x (dc (.aload_n 0, 1)) rfl).trans ((w_ki 78 (dc (.bipush 78, 2)) rfl).trans ((w_ki 79 (dc (.bipush 79, 2)) rfl).trans ((w_ki 80 (dc (.bipush 80, 2)) rfl).trans ((w_ki 0 (dc (.iconst 0, 1)) rfl).trans (w_ki 0 (dc (.iconst 0, 1)) rfl)))))
theorem cr20_301 : vR tables_1 dn y20 301 = some (true, y21, prog_1_method_32_code, 8, (some .long), 5, 0) := pR_of (cR_of (by decide +kernel) rc_21 dn_21 dn_20 (sig := ⟨[.int, .int, .int, .int, .int], some .long⟩) (by decide +kernel) (by decide +kernel) rfl rfl) (by decide +kernel) (by decide +kernel)
theorem m20_101 (a0 : Int32) (a1 : Int32) (a2 : Int32) (a3 : Int32) (a4 : Int32) : M20 101 ls [.int a4, .int a3, .int a2, .int a1, .int a0, .ref b] (put b e s A L B g) Q = M21 0 [.val (.ref b), .val (.int a0), .val (.int a1), .val (.int a2), .val (.int a3), .val (.int a4), .unset, .unset] [] (put b e s A L B g) (fun v H1 => M20 104 ls (v.toList ++ []) H1 Q) := w_virt (as := [.int a4, .int a3, .int a2, .int a1, .int a0]) (rest := []) (a := b) (dc (.invokevirtual 301, 3)) cr20_301 put_o rfl rfl (Nat.le_of_ble_eq_true rfl) (by show 6 ≤ 8; omega) rfl
theorem m20_104 : M20 104 ls [.long J1] H Q = Q (some (.long J1)) H := w_lret (dc (.lreturn, 1)) rfl
theorem m20_105 : M20 105 [.val (.ref b), l1] st H Q = M20 114 [.val (.ref b), l1] (.int 0 :: .int 0 :: .int 84 :: .int 76 :: .int 72 :: .ref b :: st) H Q := (w_x (dc (.aload_n 0, 1)) rfl).trans ((w_ki 72 (dc (.bipush 72, 2)) rfl).trans ((w_ki 76 (dc (.bipush 76, 2)) rfl).trans ((w_ki 84 (dc (.bipush 84, 2)) rfl).trans ((w_ki 0 (dc (.iconst 0, 1)) rfl).trans (w_ki 0 (dc (.iconst 0, 1)) rfl)))))
theorem m20_114 (a0 : Int32) (a1 : Int32) (a2 : Int32) (a3 : Int32) (a4 : Int32) : M20 114 ls [.int a4, .int a3, .int a2, .int a1, .int a0, .ref b] (put b e s A L B g) Q = M21 0 [.val (.ref b), .val (.int a0), .val (.int a1), .val (.int a2), .val (.int a3), .val (.int a4), .unset, .unset] [] (put b e s A L B g) (fun v H1 => M20 117 ls (v.toList ++ []) H1 Q) := w_virt (as := [.int a4, .int a3, .int a2, .int a1, .int a0]) (rest := []) (a := b) (dc (.invokevirtual 301, 3)) cr20_301 put_o rfl rfl (Nat.le_of_ble_eq_true rfl) (by show 6 ≤ 8; omega) rfl
theorem m20_117 : M20 117 ls [.long J1] H Q = Q (some (.long J1)) H := w_lret (dc (.lreturn, 1)) rfl
theorem m20_118 : M20 118 [.val (.ref b), l1] st H Q = M20 127 [.val (.ref b), l1] (.int 0 :: .int 0 :: .int 67 :: .int 78 :: .int 73 :: .ref b :: st) H Q := (w_x (dc (.aload_n 0, 1)) rfl).trans ((w_ki 73 (dc (.bipush 73, 2)) rfl).trans ((w_ki 78 (dc (.bipush 78, 2)) rfl).trans ((w_ki 67 (dc (.bipush 67, 2)) rfl).trans ((w_ki 0 (dc (.iconst 0, 1)) rfl).trans (w_ki 0 (dc (.iconst 0, 1)) rfl)))))
theorem m20_127 (a0 : Int32) (a1 : Int32) (a2 : Int32) (a3 : Int32) (a4 : Int32) : M20 127 ls [.int a4, .int a3, .int a2, .int a1, .int a0, .ref b] (put b e s A L B g) Q = M21 0 [.val (.ref b), .val (.int a0), .val (.int a1), .val (.int a2), .val (.int a3), .val (.int a4), .unset, .unset] [] (put b e s A L B g) (fun v H1 => M20 130 ls (v.toList ++ []) H1 Q) := w_virt (as := [.int a4, .int a3, .int a2, .int a1, .int a0]) (rest := []) (a := b) (dc (.invokevirtual 301, 3)) cr20_301 put_o rfl rfl (Nat.le_of_ble_eq_true rfl) (by show 6 ≤ 8; omega) rfl
theorem m20_130 : M20 130 ls [.long J1] H Q = Q (some (.long J1)) H := w_lret (dc (.lreturn, 1)) rfl
theorem m20_131 : M20 131 [.val (.ref b), l1] st H Q = M20 140 [.val (.ref b), l1] (.int 0 :: .int 0 :: .int 67 :: .int 69 :: .int 68 :: .ref b :: st) H Q := (w_x (dc (.aload_n 0, 1)) rfl).trans ((w_ki 68 (dc (.bipush 68, 2)) rfl).trans ((w_ki 69 (dc (.bipush 69, 2)) rfl).trans ((w_ki 67 (dc (.bipush 67, 2)) rfl).trans ((w_ki 0 (dc (.iconst 0, 1)) rfl).trans (w_ki 0 (dc (.iconst 0, 1)) rfl)))))
theorem m20_140 (a0 : Int32) (a1 : Int32) (a2 : Int32) (a3 : Int32) (a4 : Int32) : M20 140 ls [.int a4, .int a3, .int a2, .int a1, .int a0, .ref b] (put b e s A L B g) Q = M21 0 [.val (.ref b), .val (.int a0), .val (.int a1), .val (.int a2), .val (.int a3), .val (.int a4), .unset, .unset] [] (put b e s A L B g) (fun v H1 => M20 143 ls (v.toList ++ []) H1 Q) := w_virt (as := [.int a4, .int a3, .int a2, .int a1, .int a0]) (rest := []) (a := b) (dc (.invokevirtual 301, 3)) cr20_301 put_o rfl rfl (Nat.le_of_ble_eq_true rfl) (by show 6 ≤ 8; omega) rfl
theorem m20_143 : M20 143 ls [.long J1] H Q = Q (some (.long J1)) H := w_lret (dc (.lreturn, 1)) rfl
theorem m20_144 : M20 144 [.val (.ref b), l1] st H Q = M20 153 [.val (.ref b), l1] (.int 0 :: .int 0 :: .int 65 :: .int 68 :: .int 76 :: .ref b :: st) H Q := (w_x (dc (.aload_n 0, 1)) rfl).trans ((w_ki 76 (dc (.bipush 76, 2)) rfl).trans ((w_ki 68 (dc (.bipush 68, 2)) rfl).trans ((w_ki 65 (dc (.bipush 65, 2)) rfl).trans ((w_ki 0 (dc (.iconst 0, 1)) rfl).trans (w_ki 0 (dc (.iconst 0, 1)) rfl)))))
theorem m20_153 (a0 : Int32) (a1 : Int32) (a2 : Int32) (a3 : Int32) (a4 : Int32) : M20 153 ls [.int a4, .int a3, .int a2, .int a1, .int a0, .ref b] (put b e s A L B g) Q = M21 0 [.val (.ref b), .val (.int a0), .val (.int a1), .val (.int a2), .val (.int a3), .val (.int a4), .unset, .unset] [] (put b e s A L B g) (fun v H1 => M20 156 ls (v.toList ++ []) H1 Q) := w_virt (as := [.int a4, .int a3, .int a2, .int a1, .int a0]) (rest := []) (a := b) (dc (.invokevirtual 301, 3)) cr20_301 put_o rfl rfl (Nat.le_of_ble_eq_true rfl) (by show 6 ≤ 8; omega) rfl
theorem m20_156 : M20 156 ls [.long J1] H Q = Q (some (.long J1)) H := w_lret (dc (.lreturn, 1)) rfl
theorem m20_157 : M20 157 [.val (.ref b), l1] st H Q = M20 166 [.val (.ref b), l1] (.int 0 :: .int 0 :: .int 65 :: .int 84 :: .int 83 :: .ref b :: st) H Q := (w_x (dc (.aload_n 0, 1)) rfl).trans ((w_ki 83 (dc (.bipush 83, 2)) rfl).trans ((w_ki 84 (dc (.bipush 84, 2)) rfl).trans ((w_ki 65 (dc (.bipush 65, 2)) rfl).trans ((w_ki 0 (dc (.iconst 0, 1)) rfl).trans (w_ki 0 (dc (.iconst 0, 1)) rfl)))))
theorem m20_166 (a0 : Int32) (a1 : Int32) (a2 : Int32) (a3 : Int32) (a4 : Int32) : M20 166 ls [.int a4, .int a3, .int a2, .int a1, .int a0, .ref b] (put b e s A L B g) Q = M21 0 [.val (.ref b), .val (.int a0), .val (.int a1), .val (.int a2), .val (.int a3), .val (.int a4), .unset, .unset] [] (put b e s A L B g) (fun v H1 => M20 169 ls (v.toList ++ []) H1 Q) := w_virt (as := [.int a4, .int a3, .int a2, .int a1, .int a0]) (rest := []) (a := b) (dc (.invokevirtual 301, 3)) cr20_301 put_o rfl rfl (Nat.le_of_ble_eq_true rfl) (by show 6 ≤ 8; omega) rfl
theorem m20_169 : M20 169 ls [.long J1] H Q = Q (some (.long J1)) H := w_lret (dc (.lreturn, 1)) rfl
theorem m20_170 : M20 170 [.val (.ref b), l1] st H Q = M20 179 [.val (.ref b), l1] (.int 0 :: .int 0 :: .int 68 :: .int 68 :: .int 65 :: .ref b :: st) H Q := (w_x (dc (.aload_n 0, 1)) rfl).trans ((w_ki 65 (dc (.bipush 65, 2)) rfl).trans ((w_ki 68 (dc (.bipush 68, 2)) rfl).trans ((w_ki 68 (dc (.bipush 68, 2)) rfl).trans ((w_ki 0 (dc (.iconst 0, 1)) rfl).trans (w_ki 0 (dc (.iconst 0, 1)) rfl)))))
theorem m20_179 (a0 : Int32) (a1 : Int32) (a2 : Int32) (a3 : Int32) (a4 : Int32) : M20 179 ls [.int a4, .int a3, .int a2, .int a1, .int a0, .ref b] (put b e s A L B g) Q = M21 0 [.val (.ref b), .val (.int a0), .val (.int a1), .val (.int a2), .val (.int a3), .val (.int a4), .unset, .unset] [] (put b e s A L B g) (fun v H1 => M20 182 ls (v.toList ++ []) H1 Q) := w_virt (as := [.int a4, .int a3, .int a2, .int a1, .int a0]) (rest := []) (a := b) (dc (.invokevirtual 301, 3)) cr20_301 put_o rfl rfl (Nat.le_of_ble_eq_true rfl) (by show 6 ≤ 8; omega) rfl
theorem m20_182 : M20 182 ls [.long J1] H Q = Q (some (.long J1)) H := w_lret (dc (.lreturn, 1)) rfl
theorem m20_183 : M20 183 [.val (.ref b), l1] st H Q = M20 192 [.val (.ref b), l1] (.int 0 :: .int 0 :: .int 66 :: .int 85 :: .int 83 :: .ref b :: st) H Q := (w_x (dc (.aload_n 0, 1)) rfl).trans ((w_ki 83 (dc (.bipush 83, 2)) rfl).trans ((w_ki 85 (dc (.bipush 85, 2)) rfl).trans ((w_ki 66 (dc (.bipush 66, 2)) rfl).trans ((w_ki 0 (dc (.iconst 0, 1)) rfl).trans (w_ki 0 (dc (.iconst 0, 1)) rfl)))))
theorem m20_192 (a0 : Int32) (a1 : Int32) (a2 : Int32) (a3 : Int32) (a4 : Int32) : M20 192 ls [.int a4, .int a3, .int a2, .int a1, .int a0, .ref b] (put b e s A L B g) Q = M21 0 [.val (.ref b), .val (.int a0), .val (.int a1), .val (.int a2), .val (.int a3), .val (.int a4), .unset, .unset] [] (put b e s A L B g) (fun v H1 => M20 195 ls (v.toList ++ []) H1 Q) := w_virt (as := [.int a4, .int a3, .int a2, .int a1, .int a0]) (rest := []) (a := b) (dc (.invokevirtual 301, 3)) cr20_301 put_o rfl rfl (Nat.le_of_ble_eq_true rfl) (by show 6 ≤ 8; omega) rfl
theorem m20_195 : M20 195 ls [.long J1] H Q = Q (some (.long J1)) H := w_lret (dc (.lreturn, 1)) rfl
theorem m20_196 : M20 196 [.val (.ref b), l1] st H Q = M20 205 [.val (.ref b), l1] (.int 0 :: .int 0 :: .int 80 :: .int 77 :: .int 74 :: .ref b :: st) H Q := (w_x (dc (.aload_n 0, 1)) rfl).trans ((w_ki 74 (dc (.bipush 74, 2)) rfl).trans ((w_ki 77 (dc (.bipush 77, 2)) rfl).trans ((w_ki 80 (dc (.bipush 80, 2)) rfl).trans ((w_ki 0 (dc (.iconst 0, 1)) rfl).trans (w_ki 0 (dc (.iconst 0, 1)) rfl)))))
theorem m20_205 (a0 : Int32) (a1 : Int32) (a2 : Int32) (a3 : Int32) (a4 : Int32) : M20 205 ls [.int a4, .int a3, .int a2, .int a1, .int a0, .ref b] (put b e s A L B g) Q = M21 0 [.val (.ref b), .val (.int a0), .val (.int a1), .val (.int a2), .val (.int a3), .val (.int a4), .unset, .unset] [] (put b e s A L B g) (fun v H1 => M20 208 ls (v.toList ++ []) H1 Q) := w_virt (as := [.int a4, .int a3, .int a2, .int a1, .int a0]) (rest := []) (a := b) (dc (.invokevirtual 301, 3)) cr20_301 put_o rfl rfl (Nat.le_of_ble_eq_true rfl) (by show 6 ≤ 8; omega) rfl
theorem m20_208 : M20 208 ls [.long J1] H Q = Q (some (.long J1)) H := w_lret (dc (.lreturn, 1)) rfl
theorem m20_209 : M20 209 [.val (.ref b), l1] st H Q = M20 217 [.val (.ref b), l1] (.int 0 :: .int 0 :: .int 0 :: .int 90 :: .int 74 :: .ref b :: st) H Q := (w_x (dc (.aload_n 0, 1)) rfl).trans ((w_ki 74 (dc (.bipush 74, 2)) rfl).trans ((w_ki 90 (dc (.bipush 90, 2)) rfl).trans ((w_ki 0 (dc (.iconst 0, 1)) rfl).trans ((w_ki 0 (dc (.iconst 0, 1)) rfl).trans (w_ki 0 (dc (.iconst 0, 1)) rfl)))))
theorem m20_217 (a0 : Int32) (a1 : Int32) (a2 : Int32) (a3 : Int32) (a4 : Int32) : M20 217 ls [.int a4, .int a3, .int a2, .int a1, .int a0, .ref b] (put b e s A L B g) Q = M21 0 [.val (.ref b), .val (.int a0), .val (.int a1), .val (.int a2), .val (.int a3), .val (.int a4), .unset, .unset] [] (put b e s A L B g) (fun v H1 => M20 220 ls (v.toList ++ []) H1 Q) := w_virt (as := [.int a4, .int a3, .int a2, .int a1, .int a0]) (rest := []) (a := b) (dc (.invokevirtual 301, 3)) cr20_301 put_o rfl rfl (Nat.le_of_ble_eq_true rfl) (by show 6 ≤ 8; omega) rfl
theorem m20_220 : M20 220 ls [.long J1] H Q = Q (some (.long J1)) H := w_lret (dc (.lreturn, 1)) rfl
theorem m20_221 : M20 221 [.val (.ref b), l1] st H Q = M20 229 [.val (.ref b), l1] (.int 0 :: .int 0 :: .int 0 :: .int 66 :: .int 68 :: .ref b :: st) H Q := (w_x (dc (.aload_n 0, 1)) rfl).trans ((w_ki 68 (dc (.bipush 68, 2)) rfl).trans ((w_ki 66 (dc (.bipush 66, 2)) rfl).trans ((w_ki 0 (dc (.iconst 0, 1)) rfl).trans ((w_ki 0 (dc (.iconst 0, 1)) rfl).trans (w_ki 0 (dc (.iconst 0, 1)) rfl)))))
theorem m20_229 (a0 : Int32) (a1 : Int32) (a2 : Int32) (a3 : Int32) (a4 : Int32) : M20 229 ls [.int a4, .int a3, .int a2, .int a1, .int a0, .ref b] (put b e s A L B g) Q = M21 0 [.val (.ref b), .val (.int a0), .val (.int a1), .val (.int a2), .val (.int a3), .val (.int a4), .unset, .unset] [] (put b e s A L B g) (fun v H1 => M20 232 ls (v.toList ++ []) H1 Q) := w_virt (as := [.int a4, .int a3, .int a2, .int a1, .int a0]) (rest := []) (a := b) (dc (.invokevirtual 301, 3)) cr20_301 put_o rfl rfl (Nat.le_of_ble_eq_true rfl) (by show 6 ≤ 8; omega) rfl
theorem m20_232 : M20 232 ls [.long J1] H Q = Q (some (.long J1)) H := w_lret (dc (.lreturn, 1)) rfl
theorem m20_233 : M20 233 [.val (.ref b), l1] st H Q = M20 242 [.val (.ref b), l1] (.int 0 :: .int 0 :: .int 85 :: .int 81 :: .int 69 :: .ref b :: st) H Q := (w_x (dc (.aload_n 0, 1)) rfl).trans ((w_ki 69 (dc (.bipush 69, 2)) rfl).trans ((w_ki 81 (dc (.bipush 81, 2)) rfl).trans ((w_ki 85 (dc (.bipush 85, 2)) rfl).trans ((w_ki 0 (dc (.iconst 0, 1)) rfl).trans (w_ki 0 (dc (.iconst 0, 1)) rfl)))))
theorem m20_242 (a0 : Int32) (a1 : Int32) (a2 : Int32) (a3 : Int32) (a4 : Int32) : M20 242 ls [.int a4, .int a3, .int a2, .int a1, .int a0, .ref b] (put b e s A L B g) Q = M21 0 [.val (.ref b), .val (.int a0), .val (.int a1), .val (.int a2), .val (.int a3), .val (.int a4), .unset, .unset] [] (put b e s A L B g) (fun v H1 => M20 245 ls (v.toList ++ []) H1 Q) := w_virt (as := [.int a4, .int a3, .int a2, .int a1, .int a0]) (rest := []) (a := b) (dc (.invokevirtual 301, 3)) cr20_301 put_o rfl rfl (Nat.le_of_ble_eq_true rfl) (by show 6 ≤ 8; omega) rfl
theorem m20_245 : M20 245 ls [.long J1] H Q = Q (some (.long J1)) H := w_lret (dc (.lreturn, 1)) rfl
theorem m20_246 : M20 246 [.val (.ref b), l1] st H Q = M20 257 [.val (.ref b), l1] (.int 79 :: .int 82 :: .int 67 :: .int 65 :: .int 77 :: .ref b :: st) H Q := (w_x (dc (.aload_n 0, 1)) rfl).trans ((w_ki 77 (dc (.bipush 77, 2)) rfl).trans ((w_ki 65 (dc (.bipush 65, 2)) rfl).trans ((w_ki 67 (dc (.bipush 67, 2)) rfl).trans ((w_ki 82 (dc (.bipush 82, 2)) rfl).trans (w_ki 79 (dc (.bipush 79, 2)) rfl)))))
theorem m20_257 (a0 : Int32) (a1 : Int32) (a2 : Int32) (a3 : Int32) (a4 : Int32) : M20 257 ls [.int a4, .int a3, .int a2, .int a1, .int a0, .ref b] (put b e s A L B g) Q = M21 0 [.val (.ref b), .val (.int a0), .val (.int a1), .val (.int a2), .val (.int a3), .val (.int a4), .unset, .unset] [] (put b e s A L B g) (fun v H1 => M20 260 ls (v.toList ++ []) H1 Q) := w_virt (as := [.int a4, .int a3, .int a2, .int a1, .int a0]) (rest := []) (a := b) (dc (.invokevirtual 301, 3)) cr20_301 put_o rfl rfl (Nat.le_of_ble_eq_true rfl) (by show 6 ≤ 8; omega) rfl
theorem m20_260 : M20 260 ls [.long J1] H Q = Q (some (.long J1)) H := w_lret (dc (.lreturn, 1)) rfl
theorem m20_261 : M20 261 [.val (.ref b), l1] st H Q = M20 271 [.val (.ref b), l1] (.int 0 :: .int 77 :: .int 68 :: .int 78 :: .int 69 :: .ref b :: st) H Q := (w_x (dc (.aload_n 0, 1)) rfl).trans ((w_ki 69 (dc (.bipush 69, 2)) rfl).trans ((w_ki 78 (dc (.bipush 78, 2)) rfl).trans ((w_ki 68 (dc (.bipush 68, 2)) rfl).trans ((w_ki 77 (dc (.bipush 77, 2)) rfl).trans (w_ki 0 (dc (.iconst 0, 1)) rfl)))))
theorem m20_271 (a0 : Int32) (a1 : Int32) (a2 : Int32) (a3 : Int32) (a4 : Int32) : M20 271 ls [.int a4, .int a3, .int a2, .int a1, .int a0, .ref b] (put b e s A L B g) Q = M21 0 [.val (.ref b), .val (.int a0), .val (.int a1), .val (.int a2), .val (.int a3), .val (.int a4), .unset, .unset] [] (put b e s A L B g) (fun v H1 => M20 274 ls (v.toList ++ []) H1 Q) := w_virt (as := [.int a4, .int a3, .int a2, .int a1, .int a0]) (rest := []) (a := b) (dc (.invokevirtual 301, 3)) cr20_301 put_o rfl rfl (Nat.le_of_ble_eq_true rfl) (by show 6 ≤ 8; omega) rfl
theorem m20_274 : M20 274 ls [.long J1] H Q = Q (some (.long J1)) H := w_lret (dc (.lreturn, 1)) rfl
theorem m20_275 : M20 275 [.val (.ref b), l1] st H Q = M20 283 [.val (.ref b), l1] (.int 0 :: .int 0 :: .int 0 :: .int 70 :: .int 73 :: .ref b :: st) H Q := (w_x (dc (.aload_n 0, 1)) rfl).trans ((w_ki 73 (dc (.bipush 73, 2)) rfl).trans ((w_ki 70 (dc (.bipush 70, 2)) rfl).trans ((w_ki 0 (dc (.iconst 0, 1)) rfl).trans ((w_ki 0 (dc (.iconst 0, 1)) rfl).trans (w_ki 0 (dc (.iconst 0, 1)) rfl)))))
theorem m20_283 (a0 : Int32) (a1 : Int32) (a2 : Int32) (a3 : Int32) (a4 : Int32) : M20 283 ls [.int a4, .int a3, .int a2, .int a1, .int a0, .ref b] (put b e s A L B g) Q = M21 0 [.val (.ref b), .val (.int a0), .val (.int a1), .val (.int a2), .val (.int a3), .val (.int a4), .unset, .unset] [] (put b e s A L B g) (fun v H1 => M20 286 ls (v.toList ++ []) H1 Q) := w_virt (as := [.int a4, .int a3, .int a2, .int a1, .int a0]) (rest := []) (a := b) (dc (.invokevirtual 301, 3)) cr20_301 put_o rfl rfl (Nat.le_of_ble_eq_true rfl) (by show 6 ≤ 8; omega) rfl
theorem m20_286 : M20 286 ls [.long J1] H Q = Q (some (.long J1)) H := w_lret (dc (.lreturn, 1)) rfl
theorem m20_287 : M20 287 [.val (.ref b), l1] st H Q = M20 297 [.val (.ref b), l1] (.int 0 :: .int 69 :: .int 83 :: .int 76 :: .int 69 :: .ref b :: st) H Q := (w_x (dc (.aload_n 0, 1)) rfl).trans ((w_ki 69 (dc (.bipush 69, 2)) rfl).trans ((w_ki 76 (dc (.bipush 76, 2)) rfl).trans ((w_ki 83 (dc (.bipush 83, 2)) rfl).trans ((w_ki 69 (dc (.bipush 69, 2)) rfl).trans (w_ki 0 (dc (.iconst 0, 1)) rfl)))))
theorem m20_297 (a0 : Int32) (a1 : Int32) (a2 : Int32) (a3 : Int32) (a4 : Int32) : M20 297 ls [.int a4, .int a3, .int a2, .int a1, .int a0, .ref b] (put b e s A L B g) Q = M21 0 [.val (.ref b), .val (.int a0), .val (.int a1), .val (.int a2), .val (.int a3), .val (.int a4), .unset, .unset] [] (put b e s A L B g) (fun v H1 => M20 300 ls (v.toList ++ []) H1 Q) := w_virt (as := [.int a4, .int a3, .int a2, .int a1, .int a0]) (rest := []) (a := b) (dc (.invokevirtual 301, 3)) cr20_301 put_o rfl rfl (Nat.le_of_ble_eq_true rfl) (by show 6 ≤ 8; omega) rfl
theorem m20_300 : M20 300 ls [.long J1] H Q = Q (some (.long J1)) H := w_lret (dc (.lreturn, 1)) rfl
theorem m20_301 : M20 301 [.val (.ref b), l1] st H Q = M20 312 [.val (.ref b), l1] (.int 70 :: .int 73 :: .int 68 :: .int 78 :: .int 69 :: .ref b :: st) H Q := (w_x (dc (.aload_n 0, 1)) rfl).trans ((w_ki 69 (dc (.bipush 69, 2)) rfl).trans ((w_ki 78 (dc (.bipush 78, 2)) rfl).trans ((w_ki 68 (dc (.bipush 68, 2)) rfl).trans ((w_ki 73 (dc (.bipush 73, 2)) rfl).trans (w_ki 70 (dc (.bipush 70, 2)) rfl)))))
theorem m20_312 (a0 : Int32) (a1 : Int32) (a2 : Int32) (a3 : Int32) (a4 : Int32) : M20 312 ls [.int a4, .int a3, .int a2, .int a1, .int a0, .ref b] (put b e s A L B g) Q = M21 0 [.val (.ref b), .val (.int a0), .val (.int a1), .val (.int a2), .val (.int a3), .val (.int a4), .unset, .unset] [] (put b e s A L B g) (fun v H1 => M20 315 ls (v.toList ++ []) H1 Q) := w_virt (as := [.int a4, .int a3, .int a2, .int a1, .int a0]) (rest := []) (a := b) (dc (.invokevirtual 301, 3)) cr20_301 put_o rfl rfl (Nat.le_of_ble_eq_true rfl) (by show 6 ≤ 8; omega) rfl
theorem m20_315 : M20 315 ls [.long J1] H Q = Q (some (.long J1)) H := w_lret (dc (.lreturn, 1)) rfl
theorem m20_316 : M20 316 [.val (.ref b), l1] st H Q = M20 326 [.val (.ref b), l1] (.int 0 :: .int 84 :: .int 80 :: .int 69 :: .int 82 :: .ref b :: st) H Q := (w_x (dc (.aload_n 0, 1)) rfl).trans ((w_ki 82 (dc (.bipush 82, 2)) rfl).trans ((w_ki 69 (dc (.bipush 69, 2)) rfl).trans ((w_ki 80 (dc (.bipush 80, 2)) rfl).trans ((w_ki 84 (dc (.bipush 84, 2)) rfl).trans (w_ki 0 (dc (.iconst 0, 1)) rfl)))))
theorem m20_326 (a0 : Int32) (a1 : Int32) (a2 : Int32) (a3 : Int32) (a4 : Int32) : M20 326 ls [.int a4, .int a3, .int a2, .int a1, .int a0, .ref b] (put b e s A L B g) Q = M21 0 [.val (.ref b), .val (.int a0), .val (.int a1), .val (.int a2), .val (.int a3), .val (.int a4), .unset, .unset] [] (put b e s A L B g) (fun v H1 => M20 329 ls (v.toList ++ []) H1 Q) := w_virt (as := [.int a4, .int a3, .int a2, .int a1, .int a0]) (rest := []) (a := b) (dc (.invokevirtual 301, 3)) cr20_301 put_o rfl rfl (Nat.le_of_ble_eq_true rfl) (by show 6 ≤ 8; omega) rfl
theorem m20_329 : M20 329 ls [.long J1] H Q = Q (some (.long J1)) H := w_lret (dc (.lreturn, 1)) rfl
theorem m20_330 : M20 330 [.val (.ref b), l1] st H Q = M20 340 [.val (.ref b), l1] (.int 0 :: .int 82 :: .int 68 :: .int 78 :: .int 69 :: .ref b :: st) H Q := (w_x (dc (.aload_n 0, 1)) rfl).trans ((w_ki 69 (dc (.bipush 69, 2)) rfl).trans ((w_ki 78 (dc (.bipush 78, 2)) rfl).trans ((w_ki 68 (dc (.bipush 68, 2)) rfl).trans ((w_ki 82 (dc (.bipush 82, 2)) rfl).trans (w_ki 0 (dc (.iconst 0, 1)) rfl)))))
theorem m20_340 (a0 : Int32) (a1 : Int32) (a2 : Int32) (a3 : Int32) (a4 : Int32) : M20 340 ls [.int a4, .int a3, .int a2, .int a1, .int a0, .ref b] (put b e s A L B g) Q = M21 0 [.val (.ref b), .val (.int a0), .val (.int a1), .val (.int a2), .val (.int a3), .val (.int a4), .unset, .unset] [] (put b e s A L B g) (fun v H1 => M20 343 ls (v.toList ++ []) H1 Q) := w_virt (as := [.int a4, .int a3, .int a2, .int a1, .int a0]) (rest := []) (a := b) (dc (.invokevirtual 301, 3)) cr20_301 put_o rfl rfl (Nat.le_of_ble_eq_true rfl) (by show 6 ≤ 8; omega) rfl
theorem m20_343 : M20 343 ls [.long J1] H Q = Q (some (.long J1)) H := w_lret (dc (.lreturn, 1)) rfl
theorem m21_0 : M21 0 [l0, .val (.int v1), .val (.int v2), l3, l4, l5, l6, l7] st H Q = M21 9 [l0, .val (.int v1), .val (.int v2), l3, l4, l5, l6, l7] (.long ((((v1.toInt64) * 128)) + (v2.toInt64)) :: st) H Q := (w_x (dc (.iload_n 1, 1)) rfl).trans ((w_x (dc (.i2l, 1)) rfl).trans ((w_ldc2 (v := 128) (dc (.ldc2_w 282, 3)) (by decide +kernel)).trans ((w_x (dc (.lmul, 1)) rfl).trans ((w_x (dc (.iload_n 2, 1)) rfl).trans ((w_x (dc (.i2l, 1)) rfl).trans (w_x (dc (.ladd, 1)) rfl))))))
theorem m21_9 : M21 9 [l0, l1, l2, l3, l4, l5, .unset, .unset] (.long J1 :: st) H Q = M21 11 [l0, l1, l2, l3, l4, l5, .val (.long J1), .second] st H Q := w_x (dc (.lstore 6, 2)) rfl
theorem m21_11 : M21 11 [l0, l1, l2, .val (.int v3), l4, l5, l6, l7] st H Q = if v3 = 0 then M21 26 [l0, l1, l2, .val (.int v3), l4, l5, l6, l7] st H Q else M21 15 [l0, l1, l2, .val (.int v3), l4, l5, l6, l7] st H Q := (w_x (dc (.iload_n 3, 1)) rfl).trans (w_if (dc (.ifCond .eq 14, 3)) (z_eq v3) rfl)
theorem m21_15 : M21 15 [l0, l1, l2, .val (.int v3), l4, l5, .val (.long w6), l7] st H Q = M21 24 [l0, l1, l2, .val (.int v3), l4, l5, .val (.long w6), l7] (.long ((w6 * 128) + (v3.toInt64)) :: st) H Q := (w_x (dc (.lload 6, 2)) rfl).trans ((w_ldc2 (v := 128) (dc (.ldc2_w 282, 3)) (by decide +kernel)).trans ((w_x (dc (.lmul, 1)) rfl).trans ((w_x (dc (.iload_n 3, 1)) rfl).trans ((w_x (dc (.i2l, 1)) rfl).trans (w_x (dc (.ladd, 1)) rfl)))))
theorem m21_24 : M21 24 [l0, l1, l2, l3, l4, l5, .val (.long J2), .second] (.long J1 :: st) H Q = M21 26 [l0, l1, l2, l3, l4, l5, .val (.long J1), .second] st H Q := w_x (dc (.lstore 6, 2)) rfl
theorem m21_26 : M21 26 [l0, l1, l2, l3, .val (.int v4), l5, l6, l7] st H Q = if v4 = 0 then M21 43 [l0, l1, l2, l3, .val (.int v4), l5, l6, l7] st H Q else M21 31 [l0, l1, l2, l3, .val (.int v4), l5, l6, l7] st H Q := (w_x (dc (.iload 4, 2)) rfl).trans (w_if (dc (.ifCond .eq 15, 3)) (z_eq v4) rfl)
theorem m21_31 : M21 31 [l0, l1, l2, l3, .val (.int v4), l5, .val (.long w6), l7] st H Q = M21 41 [l0, l1, l2, l3, .val (.int v4), l5, .val (.long w6), l7] (.long ((w6 * 128) + (v4.toInt64)) :: st) H Q := (w_x (dc (.lload 6, 2)) rfl).trans ((w_ldc2 (v := 128) (dc (.ldc2_w 282, 3)) (by decide +kernel)).trans ((w_x (dc (.lmul, 1)) rfl).trans ((w_x (dc (.iload 4, 2)) rfl).trans ((w_x (dc (.i2l, 1)) rfl).trans (w_x (dc (.ladd, 1)) rfl)))))
theorem m21_41 : M21 41 [l0, l1, l2, l3, l4, l5, .val (.long J2), .second] (.long J1 :: st) H Q = M21 43 [l0, l1, l2, l3, l4, l5, .val (.long J1), .second] st H Q := w_x (dc (.lstore 6, 2)) rfl
theorem m21_43 : M21 43 [l0, l1, l2, l3, l4, .val (.int v5), l6, l7] st H Q = if v5 = 0 then M21 60 [l0, l1, l2, l3, l4, .val (.int v5), l6, l7] st H Q else M21 48 [l0, l1, l2, l3, l4, .val (.int v5), l6, l7] st H Q := (w_x (dc (.iload 5, 2)) rfl).trans (w_if (dc (.ifCond .eq 15, 3)) (z_eq v5) rfl)
theorem m21_48 : M21 48 [l0, l1, l2, l3, l4, .val (.int v5), .val (.long w6), l7] st H Q = M21 58 [l0, l1, l2, l3, l4, .val (.int v5), .val (.long w6), l7] (.long ((w6 * 128) + (v5.toInt64)) :: st) H Q := (w_x (dc (.lload 6, 2)) rfl).trans ((w_ldc2 (v := 128) (dc (.ldc2_w 282, 3)) (by decide +kernel)).trans ((w_x (dc (.lmul, 1)) rfl).trans ((w_x (dc (.iload 5, 2)) rfl).trans ((w_x (dc (.i2l, 1)) rfl).trans (w_x (dc (.ladd, 1)) rfl)))))
theorem m21_58 : M21 58 [l0, l1, l2, l3, l4, l5, .val (.long J2), .second] (.long J1 :: st) H Q = M21 60 [l0, l1, l2, l3, l4, l5, .val (.long J1), .second] st H Q := w_x (dc (.lstore 6, 2)) rfl
theorem m21_60 : M21 60 [l0, l1, l2, l3, l4, l5, .val (.long J1), l7] st H Q = M21 62 [l0, l1, l2, l3, l4, l5, .val (.long J1), l7] (.long J1 :: st) H Q := w_x (dc (.lload 6, 2)) rfl
theorem m21_62 : M21 62 ls [.long J1] H Q = Q (some (.long J1)) H := w_lret (dc (.lreturn, 1)) rfl
theorem m22_0 : M22 0 [.val (.ref b), l1, l2] st (put b e s A L B g) Q = if (s 47) = 0 then M22 12 [.val (.ref b), l1, l2] st (put b e s A L B g) Q else M22 7 [.val (.ref b), l1, l2] st (put b e s A L B g) Q := (w_x (dc (.aload_n 0, 1)) rfl).trans ((w_get (dc (.getfield 421, 3)) gf_421 put_o rfl).trans (w_if (dc (.ifCond .eq 8, 3)) (z_eq (s 47)) rfl))
theorem m22_12 : M22 12 [.val (.ref b), l1, l2] st (put b e s A L B g) Q = M22 17 [.val (.ref b), l1, l2] (.int (s 48) :: .ref b :: st) (put b e s A L B g) Q := (w_x (dc (.aload_n 0, 1)) rfl).trans ((w_x (dc (.aload_n 0, 1)) rfl).trans (w_get (dc (.getfield 400, 3)) gf_400 put_o rfl))
theorem cr22_435 : vR tables_1 dn y22 435 = some (true, y23, prog_1_method_75_code, 8, none, 1, 0) := pR_of (cR_of (by decide +kernel) rc_23 dn_23 dn_22 (sig := ⟨[.int], none⟩) (by decide +kernel) (by decide +kernel) rfl rfl) (by decide +kernel) (by decide +kernel)
theorem m22_17 (a0 : Int32) : M22 17 ls [.int a0, .ref b] (put b e s A L B g) Q = M23 0 [.val (.ref b), .val (.int a0), .unset, .unset, .unset, .unset, .unset, .unset] [] (put b e s A L B g) (fun v H1 => M22 20 ls (v.toList ++ []) H1 Q) := w_virt (as := [.int a0]) (rest := []) (a := b) (dc (.invokevirtual 435, 3)) cr22_435 put_o rfl rfl (Nat.le_of_ble_eq_true rfl) (by show 2 ≤ 8; omega) rfl
theorem m22_20 : M22 20 [.val (.ref b), l1, l2] st (put b e s A L B g) Q = if (s 44) = 0 then M22 28 [.val (.ref b), l1, l2] st (put b e s A L B g) Q else M22 27 [.val (.ref b), l1, l2] st (put b e s A L B g) Q := (w_x (dc (.aload_n 0, 1)) rfl).trans ((w_get (dc (.getfield 199, 3)) gf_199 put_o rfl).trans (w_if (dc (.ifCond .eq 4, 3)) (z_eq (s 44)) rfl))
theorem m22_28 : M22 28 [.val (.ref b), l1, l2] st (put b e s A L B g) Q = if (s 49) = 2 then M22 36 [.val (.ref b), l1, l2] st (put b e s A L B g) Q else M22 72 [.val (.ref b), l1, l2] st (put b e s A L B g) Q := (w_x (dc (.aload_n 0, 1)) rfl).trans ((w_get (dc (.getfield 450, 3)) gf_450 put_o rfl).trans ((w_ki 2 (dc (.iconst 2, 1)) rfl).trans (w_icmpN (dc (.if_icmp .ne 39, 3)) (i_ne (s 49) 2) rfl)))
theorem m22_36 : M22 36 [.val (.ref b), l1, l2] st (put b e s A L B g) Q = (inB 0 (A 20) ∧ M22 42 [.val (.ref b), l1, l2] (.int (getA (A 20) 0) :: st) (put b e s A L B g) Q) := (w_x (dc (.aload_n 0, 1)) rfl).trans ((w_get (dc (.getfield 143, 3)) gf_143 put_o rfl).trans ((w_ki 0 (dc (.iconst 0, 1)) rfl).trans (w_ild (dc (.iaload, 1)) rfl put_a20)))
theorem m22_42 : M22 42 ls st H Q = M22 43 ls (.int 1 :: st) H Q := w_con (dc (.iconst 1, 1)) rfl (by decide)
theorem m22_43 : M22 43 ls (.int y :: .int x :: st) H Q = if x = y then M22 46 ls st H Q else M22 72 ls st H Q := w_icmpN (dc (.if_icmp .ne 29, 3)) (i_ne x y) rfl
theorem m22_46 : M22 46 [.val (.ref b), l1, l2] st (put b e s A L B g) Q = (inB 1 (A 20) ∧ M22 52 [.val (.ref b), l1, l2] (.int (getA (A 20) 1) :: st) (put b e s A L B g) Q) := (w_x (dc (.aload_n 0, 1)) rfl).trans ((w_get (dc (.getfield 143, 3)) gf_143 put_o rfl).trans ((w_ki 1 (dc (.iconst 1, 1)) rfl).trans (w_ild (dc (.iaload, 1)) rfl put_a20)))
theorem m22_52 : M22 52 ls st H Q = M22 53 ls (.int 1 :: st) H Q := w_con (dc (.iconst 1, 1)) rfl (by decide)
theorem m22_53 : M22 53 ls (.int y :: .int x :: st) H Q = if x = y then M22 56 ls st H Q else M22 72 ls st H Q := w_icmpN (dc (.if_icmp .ne 19, 3)) (i_ne x y) rfl
theorem m22_56 : M22 56 [.val (.ref b), l1, l2] st (put b e s A L B g) Q = (inB 1 (B 2) ∧ M22 62 [.val (.ref b), l1, l2] (.long (getL (B 2) 1) :: st) (put b e s A L B g) Q) := (w_x (dc (.aload_n 0, 1)) rfl).trans ((w_get (dc (.getfield 149, 3)) gf_149 put_o rfl).trans ((w_ki 1 (dc (.iconst 1, 1)) rfl).trans (w_lld (dc (.laload, 1)) put_l2)))
theorem m22_62 : M22 62 [.val (.ref b), l1, l2] st H Q = M22 65 [.val (.ref b), l1, l2] (.int 12 :: .ref b :: st) H Q := (w_x (dc (.aload_n 0, 1)) rfl).trans (w_ki 12 (dc (.bipush 12, 2)) rfl)
theorem cr22_307 : vR tables_1 dn y22 307 = some (true, y20, prog_1_method_33_code, 2, (some .long), 1, 28) := pR_of (cR_of (by decide +kernel) rc_20 dn_20 dn_22 (sig := ⟨[.int], some .long⟩) (by decide +kernel) (by decide +kernel) rfl rfl) (by decide +kernel) (by decide +kernel)
theorem m22_65 (a0 : Int32) (u0 : Int64) : M22 65 ls [.int a0, .ref b, .long u0] (put b e s A L B g) Q = M20 0 [.val (.ref b), .val (.int a0)] [] (put b e s A L B g) (fun v H1 => M22 68 ls (v.toList ++ [.long u0]) H1 Q) := w_virt (as := [.int a0]) (rest := [.long u0]) (a := b) (dc (.invokevirtual 307, 3)) cr22_307 put_o rfl rfl (Nat.le_of_ble_eq_true rfl) (by show 2 ≤ 2; omega) rfl
theorem m22_68 : M22 68 ls (.long J2 :: .long J1 :: st) H Q = M22 69 ls (.int (XT.cmpL J1 J2) :: st) H Q := w_x (dc (.lcmp, 1)) rfl
theorem m22_69 : M22 69 ls (.int x :: st) H Q = if x = 0 then M22 77 ls st H Q else M22 72 ls st H Q := w_if (dc (.ifCond .eq 8, 3)) (z_eq x) rfl
theorem m22_77 : M22 77 [.val (.ref b), l1, l2] st (put b e s A L B g) Q = if (s 34) < 0 then M22 84 [.val (.ref b), l1, l2] st (put b e s A L B g) Q else M22 91 [.val (.ref b), l1, l2] st (put b e s A L B g) Q := (w_x (dc (.aload_n 0, 1)) rfl).trans ((w_get (dc (.getfield 344, 3)) gf_344 put_o rfl).trans (w_ifN (dc (.ifCond .ge 10, 3)) (z_ge (s 34)) rfl))
theorem m22_84 : M22 84 [.val (.ref b), l1, l2] st (put b e s A L B g) Q = if 0 < (s 33) then M22 91 [.val (.ref b), l1, l2] st (put b e s A L B g) Q else M22 96 [.val (.ref b), l1, l2] st (put b e s A L B g) Q := (w_x (dc (.aload_n 0, 1)) rfl).trans ((w_get (dc (.getfield 316, 3)) gf_316 put_o rfl).trans (w_ifN (dc (.ifCond .le 8, 3)) (z_le (s 33)) rfl))
theorem m22_96 : M22 96 [.val (.ref b), l1, l2] st (put b e s A L B g) Q = (inB 0 (B 2) ∧ M22 102 [.val (.ref b), l1, l2] (.long (getL (B 2) 0) :: st) (put b e s A L B g) Q) := (w_x (dc (.aload_n 0, 1)) rfl).trans ((w_get (dc (.getfield 149, 3)) gf_149 put_o rfl).trans ((w_ki 0 (dc (.iconst 0, 1)) rfl).trans (w_lld (dc (.laload, 1)) put_l2)))
theorem m22_102 : M22 102 [l0, .unset, .unset] (.long J1 :: st) H Q = M22 103 [l0, .val (.long J1), .second] st H Q := w_x (dc (.lstore_n 1, 1)) rfl
theorem m22_103 : M22 103 [.val (.ref b), .val (.long w1), l2] st H Q = M22 105 [.val (.ref b), .val (.long w1), l2] (.long w1 :: .ref b :: st) H Q := (w_x (dc (.aload_n 0, 1)) rfl).trans (w_x (dc (.lload_n 1, 1)) rfl)
theorem cr22_394 : vR tables_1 dn y22 394 = some (true, y25, prog_1_method_34_code, 4, (some .int), 1, 13) := pR_of (cR_of (by decide +kernel) rc_25 dn_25 dn_22 (sig := ⟨[.long], some .int⟩) (by decide +kernel) (by decide +kernel) rfl rfl) (by decide +kernel) (by decide +kernel)
theorem m22_105 (a0 : Int64) : M22 105 ls [.long a0, .ref b] (put b e s A L B g) Q = M25 0 [.val (.ref b), .val (.long a0), .second, .unset] [] (put b e s A L B g) (fun v H1 => M22 108 ls (v.toList ++ []) H1 Q) := w_virt (as := [.long a0]) (rest := []) (a := b) (dc (.invokevirtual 394, 3)) cr22_394 put_o rfl rfl (Nat.le_of_ble_eq_true rfl) (by show 3 ≤ 4; omega) rfl
theorem m22_108 : M22 108 ls (.int x :: st) H Q = if x < 0 then M22 111 ls st H Q else M22 128 ls st H Q := w_ifN (dc (.ifCond .ge 20, 3)) (z_ge x) rfl
theorem m22_111 : M22 111 [.val (.ref b), .val (.long w1), l2] st H Q = M22 113 [.val (.ref b), .val (.long w1), l2] (.long w1 :: .ref b :: st) H Q := (w_x (dc (.aload_n 0, 1)) rfl).trans (w_x (dc (.lload_n 1, 1)) rfl)
theorem cr22_415 : vR tables_1 dn y22 415 = some (true, y26, prog_1_method_36_code, 4, (some .int), 1, 45) := pR_of (cR_of (by decide +kernel) rc_26 dn_26 dn_22 (sig := ⟨[.long], some .int⟩) (by decide +kernel) (by decide +kernel) rfl rfl) (by decide +kernel) (by decide +kernel)
theorem m22_113 (a0 : Int64) : M22 113 ls [.long a0, .ref b] (put b e s A L B g) Q = M26 0 [.val (.ref b), .val (.long a0), .second, .unset] [] (put b e s A L B g) (fun v H1 => M22 116 ls (v.toList ++ []) H1 Q) := w_virt (as := [.long a0]) (rest := []) (a := b) (dc (.invokevirtual 415, 3)) cr22_415 put_o rfl rfl (Nat.le_of_ble_eq_true rfl) (by show 3 ≤ 4; omega) rfl
theorem m22_116 : M22 116 ls (.int x :: st) H Q = if x < 0 then M22 119 ls st H Q else M22 128 ls st H Q := w_ifN (dc (.ifCond .ge 12, 3)) (z_ge x) rfl
theorem m22_119 : M22 119 [.val (.ref b), l1, l2] st (put b e s A L B g) Q = if (s 31) < 8 then M22 133 [.val (.ref b), l1, l2] st (put b e s A L B g) Q else M22 128 [.val (.ref b), l1, l2] st (put b e s A L B g) Q := (w_x (dc (.aload_n 0, 1)) rfl).trans ((w_get (dc (.getfield 310, 3)) gf_310 put_o rfl).trans ((w_ki 8 (dc (.bipush 8, 2)) rfl).trans (w_icmp (dc (.if_icmp .lt 8, 3)) (i_lt (s 31) 8) rfl)))
theorem m22_133 : M22 133 [.val (.ref b), .val (.long w1), l2] st (put b e s A L B g) Q = (inB (s 31) (B 1) ∧ M22 143 [.val (.ref b), .val (.long w1), l2] st (put b e s A L (ou B 1 (setA (B 1) (s 31) w1)) g) Q) := (w_x (dc (.aload_n 0, 1)) rfl).trans ((w_get (dc (.getfield 100, 3)) gf_100 put_o rfl).trans ((w_x (dc (.aload_n 0, 1)) rfl).trans ((w_get (dc (.getfield 310, 3)) gf_310 put_o rfl).trans ((w_x (dc (.lload_n 1, 1)) rfl).trans (w_lst (dc (.lastore, 1)) put_l1 (Nat.zero_le _) put_lw1)))))
theorem m22_143 : M22 143 [.val (.ref b), l1, l2] st (put b e s A L B g) Q = (inB (s 31) (A 7) ∧ M22 156 [.val (.ref b), l1, l2] st (put b e s (ou A 7 (setA (A 7) (s 31) (s 35))) L B g) Q) := (w_x (dc (.aload_n 0, 1)) rfl).trans ((w_get (dc (.getfield 103, 3)) gf_103 put_o rfl).trans ((w_x (dc (.aload_n 0, 1)) rfl).trans ((w_get (dc (.getfield 310, 3)) gf_310 put_o rfl).trans ((w_x (dc (.aload_n 0, 1)) rfl).trans ((w_get (dc (.getfield 347, 3)) gf_347 put_o rfl).trans (w_ist (dc (.iastore, 1)) rfl put_a7 (Nat.zero_le _) rfl put_w7))))))
theorem m22_156 : M22 156 [.val (.ref b), l1, l2] st (put b e s A L B g) Q = (inB (s 31) (A 8) ∧ M22 169 [.val (.ref b), l1, l2] st (put b e s (ou A 8 (setA (A 8) (s 31) (s 35))) L B g) Q) := (w_x (dc (.aload_n 0, 1)) rfl).trans ((w_get (dc (.getfield 106, 3)) gf_106 put_o rfl).trans ((w_x (dc (.aload_n 0, 1)) rfl).trans ((w_get (dc (.getfield 310, 3)) gf_310 put_o rfl).trans ((w_x (dc (.aload_n 0, 1)) rfl).trans ((w_get (dc (.getfield 347, 3)) gf_347 put_o rfl).trans (w_ist (dc (.iastore, 1)) rfl put_a8 (Nat.zero_le _) rfl put_w8))))))
theorem pf22_334 : pfR tables_1 y22.cls y22.name 334 = some ("MacroAssembler", 72, .int) := by decide +kernel
theorem m22_169 : M22 169 [.val (.ref b), l1, l2] st (put b e s A L B g) Q = M22 177 [.val (.ref b), l1, l2] st (put b e (ou s 32 (s 31)) A L B g) Q := (w_x (dc (.aload_n 0, 1)) rfl).trans ((w_x (dc (.aload_n 0, 1)) rfl).trans ((w_get (dc (.getfield 310, 3)) gf_310 put_o rfl).trans (w_put (dc (.putfield 334, 3)) pf22_334 put_o (Nat.zero_le _) (by show 72 < 90; omega) rfl put_s32)))
theorem pf22_310 : pfR tables_1 y22.cls y22.name 310 = some ("MacroAssembler", 63, .int) := by decide +kernel
theorem m22_177 : M22 177 [.val (.ref b), l1, l2] st (put b e s A L B g) Q = M22 187 [.val (.ref b), l1, l2] st (put b e (ou s 31 (((s 31) + 1))) A L B g) Q := (w_x (dc (.aload_n 0, 1)) rfl).trans ((w_x (dc (.dup, 1)) rfl).trans ((w_get (dc (.getfield 310, 3)) gf_310 put_o rfl).trans ((w_ki 1 (dc (.iconst 1, 1)) rfl).trans ((w_x (dc (.iadd, 1)) rfl).trans (w_put (dc (.putfield 310, 3)) pf22_310 put_o (Nat.zero_le _) (by show 63 < 90; omega) rfl put_s31)))))
theorem pf22_325 : pfR tables_1 y22.cls y22.name 325 = some ("MacroAssembler", 69, .int) := by decide +kernel
theorem m22_187 : M22 187 [.val (.ref b), l1, l2] st (put b e s A L B g) Q = M22 192 [.val (.ref b), l1, l2] st (put b e (ou s 37 1) A L B g) Q := (w_x (dc (.aload_n 0, 1)) rfl).trans ((w_ki 1 (dc (.iconst 1, 1)) rfl).trans (w_put (dc (.putfield 325, 3)) pf22_325 put_o (Nat.zero_le _) (by show 69 < 90; omega) rfl put_s37))
theorem m22_192 : M22 192 ls [] H Q = Q none H := w_vret (dc (.return_, 1)) rfl
theorem pf23_450 : pfR tables_1 y23.cls y23.name 450 = some ("MacroAssembler", 83, .int) := by decide +kernel
theorem m23_0 : M23 0 [.val (.ref b), l1, l2, l3, l4, l5, l6, l7] st (put b e s A L B g) Q = M23 5 [.val (.ref b), l1, l2, l3, l4, l5, l6, l7] st (put b e (ou s 49 0) A L B g) Q := (w_x (dc (.aload_n 0, 1)) rfl).trans ((w_ki 0 (dc (.iconst 0, 1)) rfl).trans (w_put (dc (.putfield 450, 3)) pf23_450 put_o (Nat.zero_le _) (by show 83 < 90; omega) rfl put_s49))
theorem m23_5 : M23 5 [l0, .val (.int v1), .unset, .unset, l4, l5, l6, l7] st H Q = M23 9 [l0, .val (.int v1), .val (.int v1), .val (.int 0), l4, l5, l6, l7] st H Q := (w_x (dc (.iload_n 1, 1)) rfl).trans ((w_st (i := 2) (p := isI) (dc (.istore_n 2, 1)) rfl rfl rfl rfl rfl rfl).trans ((w_ki 0 (dc (.iconst 0, 1)) rfl).trans (w_st (i := 3) (p := isI) (dc (.istore_n 3, 1)) rfl rfl rfl rfl rfl rfl)))
theorem m23_9 : M23 9 [l0, l1, l2, .val (.int v3), l4, l5, l6, l7] st H Q = if v3 < 641 then M23 16 [l0, l1, l2, .val (.int v3), l4, l5, l6, l7] st H Q else M23 191 [l0, l1, l2, .val (.int v3), l4, l5, l6, l7] st H Q := (w_x (dc (.iload_n 3, 1)) rfl).trans ((w_ki 641 (dc (.sipush 641, 3)) rfl).trans (w_icmpN (dc (.if_icmp .ge 178, 3)) (i_ge v3 641) rfl))
theorem m23_16 : M23 16 [.val (.ref b), l1, .val (.int v2), l3, l4, l5, l6, l7] st (put b e s A L B g) Q = if v2 < (s 46) then M23 24 [.val (.ref b), l1, .val (.int v2), l3, l4, l5, l6, l7] st (put b e s A L B g) Q else M23 191 [.val (.ref b), l1, .val (.int v2), l3, l4, l5, l6, l7] st (put b e s A L B g) Q := (w_x (dc (.iload_n 2, 1)) rfl).trans ((w_x (dc (.aload_n 0, 1)) rfl).trans ((w_get (dc (.getfield 274, 3)) gf_274 put_o rfl).trans (w_icmpN (dc (.if_icmp .ge 170, 3)) (i_ge v2 (s 46)) rfl)))
theorem m23_24 : M23 24 [.val (.ref b), l1, l2, l3, l4, l5, l6, l7] st (put b e s A L B g) Q = if (s 44) = 0 then M23 31 [.val (.ref b), l1, l2, l3, l4, l5, l6, l7] st (put b e s A L B g) Q else M23 191 [.val (.ref b), l1, l2, l3, l4, l5, l6, l7] st (put b e s A L B g) Q := (w_x (dc (.aload_n 0, 1)) rfl).trans ((w_get (dc (.getfield 199, 3)) gf_199 put_o rfl).trans (w_ifN (dc (.ifCond .ne 163, 3)) (z_ne (s 44)) rfl))
theorem m23_31 : M23 31 [.val (.ref b), l1, .val (.int v2), l3, l4, l5, l6, l7] st (put b e s A L B g) Q = (inB v2 (A 19) ∧ M23 37 [.val (.ref b), l1, .val (.int v2), l3, l4, l5, l6, l7] (.int (getA (A 19) v2) :: st) (put b e s A L B g) Q) := (w_x (dc (.aload_n 0, 1)) rfl).trans ((w_get (dc (.getfield 140, 3)) gf_140 put_o rfl).trans ((w_x (dc (.iload_n 2, 1)) rfl).trans (w_ild (dc (.caload, 1)) rfl put_a19)))
theorem m23_37u : M23 37 [l0, l1, l2, l3, .unset, l5, l6, l7] ((.int v) :: st) H Q = M23 39 [l0, l1, l2, l3, .val (.int v), l5, l6, l7] st H Q := w_st (i := 4) (p := isI) (dc (.istore 4, 2)) rfl rfl rfl rfl rfl rfl
theorem m23_37i : M23 37 [l0, l1, l2, l3, .val (.int z), l5, l6, l7] ((.int v) :: st) H Q = M23 39 [l0, l1, l2, l3, .val (.int v), l5, l6, l7] st H Q := w_st (i := 4) (p := isI) (dc (.istore 4, 2)) rfl rfl rfl rfl rfl rfl
theorem m23_39 : M23 39 [l0, l1, l2, l3, .val (.int v4), l5, l6, l7] st H Q = if v4 = 59 then M23 46 [l0, l1, l2, l3, .val (.int v4), l5, l6, l7] st H Q else M23 47 [l0, l1, l2, l3, .val (.int v4), l5, l6, l7] st H Q := (w_x (dc (.iload 4, 2)) rfl).trans ((w_ki 59 (dc (.bipush 59, 2)) rfl).trans (w_icmpN (dc (.if_icmp .ne 4, 3)) (i_ne v4 59) rfl))
theorem m23_47 : M23 47 [l0, l1, l2, l3, .val (.int v4), l5, l6, l7] st H Q = if v4 = 32 then M23 54 [l0, l1, l2, l3, .val (.int v4), l5, l6, l7] st H Q else M23 60 [l0, l1, l2, l3, .val (.int v4), l5, l6, l7] st H Q := (w_x (dc (.iload 4, 2)) rfl).trans ((w_ki 32 (dc (.bipush 32, 2)) rfl).trans (w_icmpN (dc (.if_icmp .ne 9, 3)) (i_ne v4 32) rfl))
theorem m23_54 : M23 54 [l0, l1, .val (.int v2), l3, l4, l5, l6, l7] st H Q = M23 185 [l0, l1, .val (.int (v2 + 1)), l3, l4, l5, l6, l7] st H Q := (w_iinc (dc (.iinc 2 1, 3)) rfl (by decide) rfl).trans (w_x (dc (.goto 128, 3)) rfl)
theorem m23_60 : M23 60 [.val (.ref b), l1, l2, l3, .val (.int v4), l5, l6, l7] st H Q = M23 63 [.val (.ref b), l1, l2, l3, .val (.int v4), l5, l6, l7] (.int v4 :: .ref b :: st) H Q := (w_x (dc (.aload_n 0, 1)) rfl).trans (w_x (dc (.iload 4, 2)) rfl)
theorem cr23_268 : vR tables_1 dn y23 268 = some (true, y14, prog_1_method_23_code, 2, (some .boolean), 1, 28) := pR_of (cR_of (by decide +kernel) rc_14 dn_14 dn_23 (sig := ⟨[.int], some .boolean⟩) (by decide +kernel) (by decide +kernel) rfl rfl) (by decide +kernel) (by decide +kernel)
theorem m23_63 (a0 : Int32) : M23 63 ls [.int a0, .ref b] (put b e s A L B g) Q = M14 0 [.val (.ref b), .val (.int a0)] [] (put b e s A L B g) (fun v H1 => M23 66 ls (v.toList ++ []) H1 Q) := w_virt (as := [.int a0]) (rest := []) (a := b) (dc (.invokevirtual 268, 3)) cr23_268 put_o rfl rfl (Nat.le_of_ble_eq_true rfl) (by show 2 ≤ 2; omega) rfl
theorem m23_66 : M23 66 ls (.int x :: st) H Q = if x = 0 then M23 113 ls st H Q else M23 69 ls st H Q := w_if (dc (.ifCond .eq 47, 3)) (z_eq x) rfl
theorem m23_69 : M23 69 [.val (.ref b), l1, .val (.int v2), l3, l4, l5, l6, l7] st H Q = M23 71 [.val (.ref b), l1, .val (.int v2), l3, l4, l5, l6, l7] (.int v2 :: .ref b :: st) H Q := (w_x (dc (.aload_n 0, 1)) rfl).trans (w_x (dc (.iload_n 2, 1)) rfl)
theorem cr23_284 : vR tables_1 dn y23 284 = some (true, y15, prog_1_method_26_code, 4, (some .int), 1, 0) := pR_of (cR_of (by decide +kernel) rc_15 dn_15 dn_23 (sig := ⟨[.int], some .int⟩) (by decide +kernel) (by decide +kernel) rfl rfl) (by decide +kernel) (by decide +kernel)
theorem m23_71 (a0 : Int32) : M23 71 ls [.int a0, .ref b] (put b e s A L B g) Q = M15 0 [.val (.ref b), .val (.int a0), .unset, .unset] [] (put b e s A L B g) (fun v H1 => M23 74 ls (v.toList ++ []) H1 Q) := w_virt (as := [.int a0]) (rest := []) (a := b) (dc (.invokevirtual 284, 3)) cr23_284 put_o rfl rfl (Nat.le_of_ble_eq_true rfl) (by show 2 ≤ 4; omega) rfl
theorem m23_74u : M23 74 [l0, l1, l2, l3, l4, .unset, l6, l7] ((.int v) :: st) H Q = M23 76 [l0, l1, l2, l3, l4, .val (.int v), l6, l7] st H Q := w_st (i := 5) (p := isI) (dc (.istore 5, 2)) rfl rfl rfl rfl rfl rfl
theorem m23_74i : M23 74 [l0, l1, l2, l3, l4, .val (.int z), l6, l7] ((.int v) :: st) H Q = M23 76 [l0, l1, l2, l3, l4, .val (.int v), l6, l7] st H Q := w_st (i := 5) (p := isI) (dc (.istore 5, 2)) rfl rfl rfl rfl rfl rfl
theorem m23_76 : M23 76 [l0, l1, .val (.int v2), l3, l4, .val (.int v5), l6, l7] st H Q = if 8 < (v5 - v2) then M23 85 [l0, l1, .val (.int v2), l3, l4, .val (.int v5), l6, l7] st H Q else M23 90 [l0, l1, .val (.int v2), l3, l4, .val (.int v5), l6, l7] st H Q := (w_x (dc (.iload 5, 2)) rfl).trans ((w_x (dc (.iload_n 2, 1)) rfl).trans ((w_x (dc (.isub, 1)) rfl).trans ((w_ki 8 (dc (.bipush 8, 2)) rfl).trans (w_icmpN (dc (.if_icmp .le 8, 3)) (i_le (v5 - v2) 8) rfl))))
theorem m23_90 : M23 90 [.val (.ref b), l1, .val (.int v2), l3, l4, .val (.int v5), l6, l7] st H Q = M23 94 [.val (.ref b), l1, .val (.int v2), l3, l4, .val (.int v5), l6, l7] (.int v5 :: .int v2 :: .ref b :: st) H Q := (w_x (dc (.aload_n 0, 1)) rfl).trans ((w_x (dc (.iload_n 2, 1)) rfl).trans (w_x (dc (.iload 5, 2)) rfl))
theorem cr23_288 : vR tables_1 dn y23 288 = some (true, y18, prog_1_method_27_code, 6, (some .long), 2, 24) := pR_of (cR_of (by decide +kernel) rc_18 dn_18 dn_23 (sig := ⟨[.int, .int], some .long⟩) (by decide +kernel) (by decide +kernel) rfl rfl) (by decide +kernel) (by decide +kernel)
theorem m23_94 (a0 : Int32) (a1 : Int32) : M23 94 ls [.int a1, .int a0, .ref b] (put b e s A L B g) Q = M18 0 [.val (.ref b), .val (.int a0), .val (.int a1), .unset, .unset, .unset] [] (put b e s A L B g) (fun v H1 => M23 97 ls (v.toList ++ []) H1 Q) := w_virt (as := [.int a1, .int a0]) (rest := []) (a := b) (dc (.invokevirtual 288, 3)) cr23_288 put_o rfl rfl (Nat.le_of_ble_eq_true rfl) (by show 3 ≤ 6; omega) rfl
theorem m23_97 : M23 97 [l0, l1, l2, l3, l4, l5, .unset, .unset] (.long J1 :: st) H Q = M23 99 [l0, l1, l2, l3, l4, l5, .val (.long J1), .second] st H Q := w_x (dc (.lstore 6, 2)) rfl
theorem m23_99 : M23 99 [.val (.ref b), l1, l2, l3, l4, l5, .val (.long w6), l7] st H Q = M23 104 [.val (.ref b), l1, l2, l3, l4, l5, .val (.long w6), l7] (.long w6 :: .int 0 :: .int 1 :: .ref b :: st) H Q := (w_x (dc (.aload_n 0, 1)) rfl).trans ((w_ki 1 (dc (.iconst 1, 1)) rfl).trans ((w_ki 0 (dc (.iconst 0, 1)) rfl).trans (w_x (dc (.lload 6, 2)) rfl)))
theorem cr23_503 : vR tables_1 dn y23 503 = some (true, y24, prog_1_method_77_code, 5, none, 3, 25) := pR_of (cR_of (by decide +kernel) rc_24 dn_24 dn_23 (sig := ⟨[.int, .int, .long], none⟩) (by decide +kernel) (by decide +kernel) rfl rfl) (by decide +kernel) (by decide +kernel)
theorem m23_104 (a0 : Int32) (a1 : Int32) (a2 : Int64) : M23 104 ls [.long a2, .int a1, .int a0, .ref b] (put b e s A L B g) Q = M24 0 [.val (.ref b), .val (.int a0), .val (.int a1), .val (.long a2), .second] [] (put b e s A L B g) (fun v H1 => M23 107 ls (v.toList ++ []) H1 Q) := w_virt (as := [.long a2, .int a1, .int a0]) (rest := []) (a := b) (dc (.invokevirtual 503, 3)) cr23_503 put_o rfl rfl (Nat.le_of_ble_eq_true rfl) (by show 5 ≤ 5; omega) rfl
theorem m23_107 : M23 107 [l0, l1, .val (.int z), l3, l4, .val (.int v5), l6, l7] st H Q = M23 185 [l0, l1, .val (.int v5), l3, l4, .val (.int v5), l6, l7] st H Q := (w_x (dc (.iload 5, 2)) rfl).trans ((w_st (i := 2) (p := isI) (dc (.istore_n 2, 1)) rfl rfl rfl rfl rfl rfl).trans (w_x (dc (.goto 75, 3)) rfl))
theorem m23_113 : M23 113 [.val (.ref b), l1, l2, l3, .val (.int v4), l5, l6, l7] st H Q = M23 116 [.val (.ref b), l1, l2, l3, .val (.int v4), l5, l6, l7] (.int v4 :: .ref b :: st) H Q := (w_x (dc (.aload_n 0, 1)) rfl).trans (w_x (dc (.iload 4, 2)) rfl)
theorem cr23_271 : vR tables_1 dn y23 271 = some (true, y17, prog_1_method_22_code, 2, (some .boolean), 1, 28) := pR_of (cR_of (by decide +kernel) rc_17 dn_17 dn_23 (sig := ⟨[.int], some .boolean⟩) (by decide +kernel) (by decide +kernel) rfl rfl) (by decide +kernel) (by decide +kernel)
theorem m23_116 (a0 : Int32) : M23 116 ls [.int a0, .ref b] (put b e s A L B g) Q = M17 0 [.val (.ref b), .val (.int a0)] [] (put b e s A L B g) (fun v H1 => M23 119 ls (v.toList ++ []) H1 Q) := w_virt (as := [.int a0]) (rest := []) (a := b) (dc (.invokevirtual 271, 3)) cr23_271 put_o rfl rfl (Nat.le_of_ble_eq_true rfl) (by show 2 ≤ 2; omega) rfl
theorem m23_119 : M23 119 ls (.int x :: st) H Q = if x = 0 then M23 131 ls st H Q else M23 122 ls st H Q := w_if (dc (.ifCond .eq 12, 3)) (z_eq x) rfl
theorem m23_122 : M23 122 [.val (.ref b), l1, .val (.int v2), l3, l4, l5, l6, l7] st H Q = M23 124 [.val (.ref b), l1, .val (.int v2), l3, l4, l5, l6, l7] (.int v2 :: .ref b :: st) H Q := (w_x (dc (.aload_n 0, 1)) rfl).trans (w_x (dc (.iload_n 2, 1)) rfl)
theorem cr23_507 : vR tables_1 dn y23 507 = some (true, y43, prog_1_method_76_code, 5, (some .int), 1, 9) := pR_of (cR_of (by decide +kernel) rc_43 dn_43 dn_23 (sig := ⟨[.int], some .int⟩) (by decide +kernel) (by decide +kernel) rfl rfl) (by decide +kernel) (by decide +kernel)
theorem m23_124 (a0 : Int32) : M23 124 ls [.int a0, .ref b] (put b e s A L B g) Q = M43 0 [.val (.ref b), .val (.int a0), .unset, .unset, .unset] [] (put b e s A L B g) (fun v H1 => M23 127 ls (v.toList ++ []) H1 Q) := w_virt (as := [.int a0]) (rest := []) (a := b) (dc (.invokevirtual 507, 3)) cr23_507 put_o rfl rfl (Nat.le_of_ble_eq_true rfl) (by show 2 ≤ 5; omega) rfl
theorem m23_127i : M23 127 [l0, l1, .val (.int z), l3, l4, l5, l6, l7] ((.int v) :: st) H Q = M23 128 [l0, l1, .val (.int v), l3, l4, l5, l6, l7] st H Q := w_st (i := 2) (p := isI) (dc (.istore_n 2, 1)) rfl rfl rfl rfl rfl rfl
theorem m23_128 : M23 128 ls st H Q = M23 185 ls st H Q := w_x (dc (.goto 57, 3)) rfl
theorem m23_185 : M23 185 [l0, l1, l2, .val (.int v3), l4, l5, l6, l7] st H Q = M23 9 [l0, l1, l2, .val (.int (v3 + 1)), l4, l5, l6, l7] st H Q := (w_iinc (dc (.iinc 3 1, 3)) rfl (by decide) rfl).trans (w_x (dc (.goto (-179), 3)) rfl)
theorem m23_191 : M23 191 ls [] H Q = Q none H := w_vret (dc (.return_, 1)) rfl
theorem m24_0 : M24 0 [.val (.ref b), l1, l2, l3, l4] st (put b e s A L B g) Q = if (s 49) < 640 then M24 15 [.val (.ref b), l1, l2, l3, l4] st (put b e s A L B g) Q else M24 10 [.val (.ref b), l1, l2, l3, l4] st (put b e s A L B g) Q := (w_x (dc (.aload_n 0, 1)) rfl).trans ((w_get (dc (.getfield 450, 3)) gf_450 put_o rfl).trans ((w_ki 640 (dc (.sipush 640, 3)) rfl).trans (w_icmp (dc (.if_icmp .lt 8, 3)) (i_lt (s 49) 640) rfl)))
theorem m24_15 : M24 15 [.val (.ref b), .val (.int v1), l2, l3, l4] st (put b e s A L B g) Q = (inB (s 49) (A 20) ∧ M24 25 [.val (.ref b), .val (.int v1), l2, l3, l4] st (put b e s (ou A 20 (setA (A 20) (s 49) v1)) L B g) Q) := (w_x (dc (.aload_n 0, 1)) rfl).trans ((w_get (dc (.getfield 143, 3)) gf_143 put_o rfl).trans ((w_x (dc (.aload_n 0, 1)) rfl).trans ((w_get (dc (.getfield 450, 3)) gf_450 put_o rfl).trans ((w_x (dc (.iload_n 1, 1)) rfl).trans (w_ist (dc (.iastore, 1)) rfl put_a20 (Nat.zero_le _) rfl put_w20)))))
theorem m24_25 : M24 25 [.val (.ref b), l1, .val (.int v2), l3, l4] st (put b e s A L B g) Q = (inB (s 49) (A 21) ∧ M24 35 [.val (.ref b), l1, .val (.int v2), l3, l4] st (put b e s (ou A 21 (setA (A 21) (s 49) v2)) L B g) Q) := (w_x (dc (.aload_n 0, 1)) rfl).trans ((w_get (dc (.getfield 146, 3)) gf_146 put_o rfl).trans ((w_x (dc (.aload_n 0, 1)) rfl).trans ((w_get (dc (.getfield 450, 3)) gf_450 put_o rfl).trans ((w_x (dc (.iload_n 2, 1)) rfl).trans (w_ist (dc (.iastore, 1)) rfl put_a21 (Nat.zero_le _) rfl put_w21)))))
theorem m24_35 : M24 35 [.val (.ref b), l1, l2, .val (.long w3), l4] st (put b e s A L B g) Q = (inB (s 49) (B 2) ∧ M24 45 [.val (.ref b), l1, l2, .val (.long w3), l4] st (put b e s A L (ou B 2 (setA (B 2) (s 49) w3)) g) Q) := (w_x (dc (.aload_n 0, 1)) rfl).trans ((w_get (dc (.getfield 149, 3)) gf_149 put_o rfl).trans ((w_x (dc (.aload_n 0, 1)) rfl).trans ((w_get (dc (.getfield 450, 3)) gf_450 put_o rfl).trans ((w_x (dc (.lload_n 3, 1)) rfl).trans (w_lst (dc (.lastore, 1)) put_l2 (Nat.zero_le _) put_lw2)))))
theorem pf24_450 : pfR tables_1 y24.cls y24.name 450 = some ("MacroAssembler", 83, .int) := by decide +kernel
theorem m24_45 : M24 45 [.val (.ref b), l1, l2, l3, l4] st (put b e s A L B g) Q = M24 55 [.val (.ref b), l1, l2, l3, l4] st (put b e (ou s 49 (((s 49) + 1))) A L B g) Q := (w_x (dc (.aload_n 0, 1)) rfl).trans ((w_x (dc (.dup, 1)) rfl).trans ((w_get (dc (.getfield 450, 3)) gf_450 put_o rfl).trans ((w_ki 1 (dc (.iconst 1, 1)) rfl).trans ((w_x (dc (.iadd, 1)) rfl).trans (w_put (dc (.putfield 450, 3)) pf24_450 put_o (Nat.zero_le _) (by show 83 < 90; omega) rfl put_s49)))))
theorem m24_55 : M24 55 ls [] H Q = Q none H := w_vret (dc (.return_, 1)) rfl
theorem m25_0 : M25 0 [l0, .val (.long w1), l2, l3] st H Q = if 0 < (XT.cmpL w1 0) then M25 8 [l0, .val (.long w1), l2, l3] st H Q else M25 6 [l0, .val (.long w1), l2, l3] st H Q := (w_x (dc (.lload_n 1, 1)) rfl).trans ((w_kl 0 (dc (.lconst 0, 1)) rfl).trans ((w_x (dc (.lcmp, 1)) rfl).trans (w_if (dc (.ifCond .gt 5, 3)) (z_gt (XT.cmpL w1 0)) rfl)))
theorem m25_8 : M25 8 [l0, l1, l2, .unset] st H Q = M25 10 [l0, l1, l2, .val (.int 0)] st H Q := (w_ki 0 (dc (.iconst 0, 1)) rfl).trans (w_st (i := 3) (p := isI) (dc (.istore_n 3, 1)) rfl rfl rfl rfl rfl rfl)
theorem m25_10 : M25 10 [l0, l1, l2, .val (.int v3)] st H Q = if v3 < 19 then M25 16 [l0, l1, l2, .val (.int v3)] st H Q else M25 34 [l0, l1, l2, .val (.int v3)] st H Q := (w_x (dc (.iload_n 3, 1)) rfl).trans ((w_ki 19 (dc (.bipush 19, 2)) rfl).trans (w_icmpN (dc (.if_icmp .ge 21, 3)) (i_ge v3 19) rfl))
theorem m25_16 : M25 16 [.val (.ref b), l1, l2, .val (.int v3)] st H Q = M25 18 [.val (.ref b), l1, l2, .val (.int v3)] (.int v3 :: .ref b :: st) H Q := (w_x (dc (.aload_n 0, 1)) rfl).trans (w_x (dc (.iload_n 3, 1)) rfl)
theorem cr25_307 : vR tables_1 dn y25 307 = some (true, y20, prog_1_method_33_code, 2, (some .long), 1, 0) := pR_of (cR_of (by decide +kernel) rc_20 dn_20 dn_25 (sig := ⟨[.int], some .long⟩) (by decide +kernel) (by decide +kernel) rfl rfl) (by decide +kernel) (by decide +kernel)
theorem m25_18 (a0 : Int32) : M25 18 ls [.int a0, .ref b] (put b e s A L B g) Q = M20 0 [.val (.ref b), .val (.int a0)] [] (put b e s A L B g) (fun v H1 => M25 21 ls (v.toList ++ []) H1 Q) := w_virt (as := [.int a0]) (rest := []) (a := b) (dc (.invokevirtual 307, 3)) cr25_307 put_o rfl rfl (Nat.le_of_ble_eq_true rfl) (by show 2 ≤ 2; omega) rfl
theorem m25_21 : M25 21 [l0, .val (.long J1), l2, l3] st H Q = M25 22 [l0, .val (.long J1), l2, l3] (.long J1 :: st) H Q := w_x (dc (.lload_n 1, 1)) rfl
theorem m25_22 : M25 22 ls (.long J2 :: .long J1 :: st) H Q = M25 23 ls (.int (XT.cmpL J1 J2) :: st) H Q := w_x (dc (.lcmp, 1)) rfl
theorem m25_23 : M25 23 ls (.int x :: st) H Q = if x = 0 then M25 26 ls st H Q else M25 28 ls st H Q := w_ifN (dc (.ifCond .ne 5, 3)) (z_ne x) rfl
theorem m25_26 : M25 26 [l0, l1, l2, .val (.int v)] st H Q = M25 27 [l0, l1, l2, .val (.int v)] (.int v :: st) H Q := w_x (dc (.iload_n 3, 1)) rfl
theorem m25_27 : M25 27 ls (.int z :: st) H Q = Q (some (.int z)) H := w_iret (dc (.ireturn, 1)) rfl
theorem m25_28 : M25 28 [l0, l1, l2, .val (.int v3)] st H Q = M25 10 [l0, l1, l2, .val (.int (v3 + 1))] st H Q := (w_iinc (dc (.iinc 3 1, 3)) rfl (by decide) rfl).trans (w_x (dc (.goto (-21), 3)) rfl)
theorem m25_34 : M25 34 ls st H Q = M25 35 ls (.int (-1) :: st) H Q := w_con (dc (.iconst (-1), 1)) rfl (by decide)
theorem m25_35 : M25 35 ls (.int z :: st) H Q = Q (some (.int z)) H := w_iret (dc (.ireturn, 1)) rfl
theorem m26_0 : M26 0 [l0, .val (.long w1), l2, l3] st H Q = if 0 < (XT.cmpL w1 0) then M26 8 [l0, .val (.long w1), l2, l3] st H Q else M26 6 [l0, .val (.long w1), l2, l3] st H Q := (w_x (dc (.lload_n 1, 1)) rfl).trans ((w_kl 0 (dc (.lconst 0, 1)) rfl).trans ((w_x (dc (.lcmp, 1)) rfl).trans (w_if (dc (.ifCond .gt 5, 3)) (z_gt (XT.cmpL w1 0)) rfl)))
theorem m26_8 : M26 8 [l0, l1, l2, .unset] st H Q = M26 10 [l0, l1, l2, .val (.int 0)] st H Q := (w_ki 0 (dc (.iconst 0, 1)) rfl).trans (w_st (i := 3) (p := isI) (dc (.istore_n 3, 1)) rfl rfl rfl rfl rfl rfl)
theorem m26_10 : M26 10 [.val (.ref b), l1, l2, .val (.int v3)] st (put b e s A L B g) Q = if v3 < (s 31) then M26 18 [.val (.ref b), l1, l2, .val (.int v3)] st (put b e s A L B g) Q else M26 43 [.val (.ref b), l1, l2, .val (.int v3)] st (put b e s A L B g) Q := (w_x (dc (.iload_n 3, 1)) rfl).trans ((w_x (dc (.aload_n 0, 1)) rfl).trans ((w_get (dc (.getfield 310, 3)) gf_310 put_o rfl).trans (w_icmpN (dc (.if_icmp .ge 28, 3)) (i_ge v3 (s 31)) rfl)))
theorem m26_18 : M26 18 [l0, l1, l2, .val (.int v3)] st H Q = if v3 < 8 then M26 24 [l0, l1, l2, .val (.int v3)] st H Q else M26 43 [l0, l1, l2, .val (.int v3)] st H Q := (w_x (dc (.iload_n 3, 1)) rfl).trans ((w_ki 8 (dc (.bipush 8, 2)) rfl).trans (w_icmpN (dc (.if_icmp .ge 22, 3)) (i_ge v3 8) rfl))
theorem m26_24 : M26 24 [.val (.ref b), l1, l2, .val (.int v3)] st (put b e s A L B g) Q = (inB v3 (B 1) ∧ M26 30 [.val (.ref b), l1, l2, .val (.int v3)] (.long (getL (B 1) v3) :: st) (put b e s A L B g) Q) := (w_x (dc (.aload_n 0, 1)) rfl).trans ((w_get (dc (.getfield 100, 3)) gf_100 put_o rfl).trans ((w_x (dc (.iload_n 3, 1)) rfl).trans (w_lld (dc (.laload, 1)) put_l1)))
theorem m26_30 : M26 30 [l0, .val (.long J1), l2, l3] st H Q = M26 31 [l0, .val (.long J1), l2, l3] (.long J1 :: st) H Q := w_x (dc (.lload_n 1, 1)) rfl
theorem m26_31 : M26 31 ls (.long J2 :: .long J1 :: st) H Q = M26 32 ls (.int (XT.cmpL J1 J2) :: st) H Q := w_x (dc (.lcmp, 1)) rfl
theorem m26_32 : M26 32 ls (.int x :: st) H Q = if x = 0 then M26 35 ls st H Q else M26 37 ls st H Q := w_ifN (dc (.ifCond .ne 5, 3)) (z_ne x) rfl
theorem m26_35 : M26 35 [l0, l1, l2, .val (.int v)] st H Q = M26 36 [l0, l1, l2, .val (.int v)] (.int v :: st) H Q := w_x (dc (.iload_n 3, 1)) rfl
theorem m26_36 : M26 36 ls (.int z :: st) H Q = Q (some (.int z)) H := w_iret (dc (.ireturn, 1)) rfl
theorem m26_43 : M26 43 ls st H Q = M26 44 ls (.int (-1) :: st) H Q := w_con (dc (.iconst (-1), 1)) rfl (by decide)
theorem m26_44 : M26 44 ls (.int z :: st) H Q = Q (some (.int z)) H := w_iret (dc (.ireturn, 1)) rfl
theorem m27_0 : M27 0 [.val (.ref b), l1, l2, l3] st H Q = M27 2 [.val (.ref b), l1, l2, l3] (.int 0 :: .ref b :: st) H Q := (w_x (dc (.aload_n 0, 1)) rfl).trans (w_ki 0 (dc (.iconst 0, 1)) rfl)
theorem cr27_391 : vR tables_1 dn y27 391 = some (true, y28, prog_1_method_29_code, 3, (some .long), 1, 0) := pR_of (cR_of (by decide +kernel) rc_28 dn_28 dn_27 (sig := ⟨[.int], some .long⟩) (by decide +kernel) (by decide +kernel) rfl rfl) (by decide +kernel) (by decide +kernel)
theorem m27_2 (a0 : Int32) : M27 2 ls [.int a0, .ref b] (put b e s A L B g) Q = M28 0 [.val (.ref b), .val (.int a0), .unset] [] (put b e s A L B g) (fun v H1 => M27 5 ls (v.toList ++ []) H1 Q) := w_virt (as := [.int a0]) (rest := []) (a := b) (dc (.invokevirtual 391, 3)) cr27_391 put_o rfl rfl (Nat.le_of_ble_eq_true rfl) (by show 2 ≤ 3; omega) rfl
theorem m27_5 : M27 5 [l0, l1, .unset, .unset] (.long J1 :: st) H Q = M27 6 [l0, l1, .val (.long J1), .second] st H Q := w_x (dc (.lstore_n 2, 1)) rfl
theorem m27_6 : M27 6 [.val (.ref b), l1, .val (.long w2), l3] st H Q = M27 10 [.val (.ref b), l1, .val (.long w2), l3] (.int 13 :: .ref b :: .long w2 :: st) H Q := (w_x (dc (.lload_n 2, 1)) rfl).trans ((w_x (dc (.aload_n 0, 1)) rfl).trans (w_ki 13 (dc (.bipush 13, 2)) rfl))
theorem cr27_307 : vR tables_1 dn y27 307 = some (true, y20, prog_1_method_33_code, 2, (some .long), 1, 37) := pR_of (cR_of (by decide +kernel) rc_20 dn_20 dn_27 (sig := ⟨[.int], some .long⟩) (by decide +kernel) (by decide +kernel) rfl rfl) (by decide +kernel) (by decide +kernel)
theorem m27_10 (a0 : Int32) (u0 : Int64) : M27 10 ls [.int a0, .ref b, .long u0] (put b e s A L B g) Q = M20 0 [.val (.ref b), .val (.int a0)] [] (put b e s A L B g) (fun v H1 => M27 13 ls (v.toList ++ [.long u0]) H1 Q) := w_virt (as := [.int a0]) (rest := [.long u0]) (a := b) (dc (.invokevirtual 307, 3)) cr27_307 put_o rfl rfl (Nat.le_of_ble_eq_true rfl) (by show 2 ≤ 2; omega) rfl
theorem m27_13 : M27 13 ls (.long J2 :: .long J1 :: st) H Q = M27 14 ls (.int (XT.cmpL J1 J2) :: st) H Q := w_x (dc (.lcmp, 1)) rfl
theorem m27_14 : M27 14 ls (.int x :: st) H Q = if x = 0 then M27 17 ls st H Q else M27 48 ls st H Q := w_ifN (dc (.ifCond .ne 34, 3)) (z_ne x) rfl
theorem m27_17 : M27 17 [.val (.ref b), l1, l2, l3] st (put b e s A L B g) Q = if (s 32) < 0 then M27 48 [.val (.ref b), l1, l2, l3] st (put b e s A L B g) Q else M27 24 [.val (.ref b), l1, l2, l3] st (put b e s A L B g) Q := (w_x (dc (.aload_n 0, 1)) rfl).trans ((w_get (dc (.getfield 334, 3)) gf_334 put_o rfl).trans (w_if (dc (.ifCond .lt 27, 3)) (z_lt (s 32)) rfl))
theorem m27_24 : M27 24 [.val (.ref b), l1, l2, l3] st (put b e s A L B g) Q = if (s 32) < 8 then M27 33 [.val (.ref b), l1, l2, l3] st (put b e s A L B g) Q else M27 48 [.val (.ref b), l1, l2, l3] st (put b e s A L B g) Q := (w_x (dc (.aload_n 0, 1)) rfl).trans ((w_get (dc (.getfield 334, 3)) gf_334 put_o rfl).trans ((w_ki 8 (dc (.bipush 8, 2)) rfl).trans (w_icmpN (dc (.if_icmp .ge 18, 3)) (i_ge (s 32) 8) rfl)))
theorem m27_33 : M27 33 [.val (.ref b), .val (.int v1), l2, l3] st (put b e s A L B g) Q = (inB (s 32) (A 8) ∧ M27 43 [.val (.ref b), .val (.int v1), l2, l3] st (put b e s (ou A 8 (setA (A 8) (s 32) v1)) L B g) Q) := (w_x (dc (.aload_n 0, 1)) rfl).trans ((w_get (dc (.getfield 106, 3)) gf_106 put_o rfl).trans ((w_x (dc (.aload_n 0, 1)) rfl).trans ((w_get (dc (.getfield 334, 3)) gf_334 put_o rfl).trans ((w_x (dc (.iload_n 1, 1)) rfl).trans (w_ist (dc (.iastore, 1)) rfl put_a8 (Nat.zero_le _) rfl put_w8)))))
theorem pf27_325 : pfR tables_1 y27.cls y27.name 325 = some ("MacroAssembler", 69, .int) := by decide +kernel
theorem m27_43 : M27 43 [.val (.ref b), l1, l2, l3] st (put b e s A L B g) Q = M27 48 [.val (.ref b), l1, l2, l3] st (put b e (ou s 37 0) A L B g) Q := (w_x (dc (.aload_n 0, 1)) rfl).trans ((w_ki 0 (dc (.iconst 0, 1)) rfl).trans (w_put (dc (.putfield 325, 3)) pf27_325 put_o (Nat.zero_le _) (by show 69 < 90; omega) rfl put_s37))
theorem m27_48 : M27 48 ls [] H Q = Q none H := w_vret (dc (.return_, 1)) rfl
theorem m28_0 : M28 0 [.val (.ref b), .val (.int v1), l2] st H Q = M28 2 [.val (.ref b), .val (.int v1), l2] (.int v1 :: .ref b :: st) H Q := (w_x (dc (.aload_n 0, 1)) rfl).trans (w_x (dc (.iload_n 1, 1)) rfl)
theorem cr28_292 : vR tables_1 dn y28 292 = some (true, y13, prog_1_method_25_code, 4, (some .int), 1, 40) := pR_of (cR_of (by decide +kernel) rc_13 dn_13 dn_28 (sig := ⟨[.int], some .int⟩) (by decide +kernel) (by decide +kernel) rfl rfl) (by decide +kernel) (by decide +kernel)
theorem m28_2 (a0 : Int32) : M28 2 ls [.int a0, .ref b] (put b e s A L B g) Q = M13 0 [.val (.ref b), .val (.int a0), .unset, .unset] [] (put b e s A L B g) (fun v H1 => M28 5 ls (v.toList ++ []) H1 Q) := w_virt (as := [.int a0]) (rest := []) (a := b) (dc (.invokevirtual 292, 3)) cr28_292 put_o rfl rfl (Nat.le_of_ble_eq_true rfl) (by show 2 ≤ 4; omega) rfl
theorem m28_5u : M28 5 [l0, l1, .unset] ((.int v) :: st) H Q = M28 6 [l0, l1, .val (.int v)] st H Q := w_st (i := 2) (p := isI) (dc (.istore_n 2, 1)) rfl rfl rfl rfl rfl rfl
theorem m28_6 : M28 6 [.val (.ref b), l1, .val (.int v2)] st H Q = M28 8 [.val (.ref b), l1, .val (.int v2)] (.int v2 :: .ref b :: st) H Q := (w_x (dc (.aload_n 0, 1)) rfl).trans (w_x (dc (.iload_n 2, 1)) rfl)
theorem cr28_295 : vR tables_1 dn y28 295 = some (true, y19, prog_1_method_28_code, 3, (some .long), 1, 0) := pR_of (cR_of (by decide +kernel) rc_19 dn_19 dn_28 (sig := ⟨[.int], some .long⟩) (by decide +kernel) (by decide +kernel) rfl rfl) (by decide +kernel) (by decide +kernel)
theorem m28_8 (a0 : Int32) : M28 8 ls [.int a0, .ref b] (put b e s A L B g) Q = M19 0 [.val (.ref b), .val (.int a0), .unset] [] (put b e s A L B g) (fun v H1 => M28 11 ls (v.toList ++ []) H1 Q) := w_virt (as := [.int a0]) (rest := []) (a := b) (dc (.invokevirtual 295, 3)) cr28_295 put_o rfl rfl (Nat.le_of_ble_eq_true rfl) (by show 2 ≤ 3; omega) rfl
theorem m28_11 : M28 11 ls [.long J1] H Q = Q (some (.long J1)) H := w_lret (dc (.lreturn, 1)) rfl
theorem m29_0 : M29 0 [.val (.ref r), l1, l2, l3, l4, l5] st H Q = M29 1 [.val (.ref r), l1, l2, l3, l4, l5] (.ref r :: st) H Q := w_x (dc (.aload_n 0, 1)) rfl
theorem cr29_403 : vR tables_1 dn y29 403 = some (true, y30, prog_1_method_55_code, 1, none, 0, 0) := pR_of (cR_of (by decide +kernel) rc_30 dn_30 dn_29 (sig := ⟨[], none⟩) (by decide +kernel) (by decide +kernel) rfl rfl) (by decide +kernel) (by decide +kernel)
theorem m29_1 : M29 1 ls [.ref b] (put b e s A L B g) Q = M30 0 [.val (.ref b)] [] (put b e s A L B g) (fun v H1 => M29 4 ls (v.toList ++ []) H1 Q) := w_virt (as := []) (rest := []) (a := b) (dc (.invokevirtual 403, 3)) cr29_403 put_o rfl rfl (Nat.le_of_ble_eq_true rfl) (by show 1 ≤ 1; omega) rfl
theorem m29_4 : M29 4 [.val (.ref b), l1, l2, l3, l4, l5] st (put b e s A L B g) Q = if (s 44) = 0 then M29 12 [.val (.ref b), l1, l2, l3, l4, l5] st (put b e s A L B g) Q else M29 11 [.val (.ref b), l1, l2, l3, l4, l5] st (put b e s A L B g) Q := (w_x (dc (.aload_n 0, 1)) rfl).trans ((w_get (dc (.getfield 199, 3)) gf_199 put_o rfl).trans (w_if (dc (.ifCond .eq 4, 3)) (z_eq (s 44)) rfl))
theorem pf29_242 : pfR tables_1 y29.cls y29.name 242 = some ("MacroAssembler", 66, .int) := by decide +kernel
theorem m29_12 : M29 12 [.val (.ref b), l1, l2, l3, l4, l5] st (put b e s A L B g) Q = M29 22 [.val (.ref b), l1, l2, l3, l4, l5] st (put b e (ou s 42 (((s 42) + 1))) A L B g) Q := (w_x (dc (.aload_n 0, 1)) rfl).trans ((w_x (dc (.dup, 1)) rfl).trans ((w_get (dc (.getfield 242, 3)) gf_242 put_o rfl).trans ((w_ki 1 (dc (.iconst 1, 1)) rfl).trans ((w_x (dc (.iadd, 1)) rfl).trans (w_put (dc (.putfield 242, 3)) pf29_242 put_o (Nat.zero_le _) (by show 66 < 90; omega) rfl put_s42)))))
theorem m29_22 : M29 22 [l0, l1, .val (.int v2), .unset, .unset, l5] st H Q = M29 27 [l0, l1, .val (.int v2), .val (.int v2), .val (.int 0), l5] st H Q := (w_x (dc (.iload_n 2, 1)) rfl).trans ((w_st (i := 3) (p := isI) (dc (.istore_n 3, 1)) rfl rfl rfl rfl rfl rfl).trans ((w_ki 0 (dc (.iconst 0, 1)) rfl).trans (w_st (i := 4) (p := isI) (dc (.istore 4, 2)) rfl rfl rfl rfl rfl rfl)))
theorem m29_27 : M29 27 [l0, l1, l2, l3, .val (.int v4), l5] st H Q = if v4 < 641 then M29 35 [l0, l1, l2, l3, .val (.int v4), l5] st H Q else M29 63 [l0, l1, l2, l3, .val (.int v4), l5] st H Q := (w_x (dc (.iload 4, 2)) rfl).trans ((w_ki 641 (dc (.sipush 641, 3)) rfl).trans (w_icmpN (dc (.if_icmp .ge 31, 3)) (i_ge v4 641) rfl))
theorem m29_35 : M29 35 [.val (.ref b), l1, l2, .val (.int v3), l4, l5] st (put b e s A L B g) Q = if v3 < (s 46) then M29 43 [.val (.ref b), l1, l2, .val (.int v3), l4, l5] st (put b e s A L B g) Q else M29 63 [.val (.ref b), l1, l2, .val (.int v3), l4, l5] st (put b e s A L B g) Q := (w_x (dc (.iload_n 3, 1)) rfl).trans ((w_x (dc (.aload_n 0, 1)) rfl).trans ((w_get (dc (.getfield 274, 3)) gf_274 put_o rfl).trans (w_icmpN (dc (.if_icmp .ge 23, 3)) (i_ge v3 (s 46)) rfl)))
theorem m29_43 : M29 43 [.val (.ref b), l1, l2, .val (.int v3), l4, l5] st (put b e s A L B g) Q = (inB v3 (A 19) ∧ M29 49 [.val (.ref b), l1, l2, .val (.int v3), l4, l5] (.int (getA (A 19) v3) :: st) (put b e s A L B g) Q) := (w_x (dc (.aload_n 0, 1)) rfl).trans ((w_get (dc (.getfield 140, 3)) gf_140 put_o rfl).trans ((w_x (dc (.iload_n 3, 1)) rfl).trans (w_ild (dc (.caload, 1)) rfl put_a19)))
theorem m29_49 : M29 49 ls st H Q = M29 51 ls (.int 59 :: st) H Q := w_con (dc (.bipush 59, 2)) rfl (by decide)
theorem m29_51 : M29 51 ls (.int y :: .int x :: st) H Q = if x = y then M29 63 ls st H Q else M29 54 ls st H Q := w_icmp (dc (.if_icmp .eq 12, 3)) (i_eq x y) rfl
theorem m29_54 : M29 54 [l0, l1, l2, .val (.int v3), .val (.int v4), l5] st H Q = M29 27 [l0, l1, l2, .val (.int (v3 + 1)), .val (.int (v4 + 1)), l5] st H Q := (w_iinc (dc (.iinc 3 1, 3)) rfl (by decide) rfl).trans ((w_iinc (dc (.iinc 4 1, 3)) rfl (by decide) rfl).trans (w_x (dc (.goto (-33), 3)) rfl))
theorem m29_63 : M29 63 [.val (.ref b), l1, .val (.int v2), .val (.int v3), l4, l5] st H Q = M29 66 [.val (.ref b), l1, .val (.int v2), .val (.int v3), l4, l5] (.int v3 :: .int v2 :: .ref b :: st) H Q := (w_x (dc (.aload_n 0, 1)) rfl).trans ((w_x (dc (.iload_n 2, 1)) rfl).trans (w_x (dc (.iload_n 3, 1)) rfl))
theorem cr29_492 : vR tables_1 dn y29 492 = some (true, y31, prog_1_method_72_code, 6, (some .int), 2, 57) := pR_of (cR_of (by decide +kernel) rc_31 dn_31 dn_29 (sig := ⟨[.int, .int], some .int⟩) (by decide +kernel) (by decide +kernel) rfl rfl) (by decide +kernel) (by decide +kernel)
theorem m29_66 (a0 : Int32) (a1 : Int32) : M29 66 ls [.int a1, .int a0, .ref b] (put b e s A L B g) Q = M31 0 [.val (.ref b), .val (.int a0), .val (.int a1), .unset, .unset, .unset] [] (put b e s A L B g) (fun v H1 => M29 69 ls (v.toList ++ []) H1 Q) := w_virt (as := [.int a1, .int a0]) (rest := []) (a := b) (dc (.invokevirtual 492, 3)) cr29_492 put_o rfl rfl (Nat.le_of_ble_eq_true rfl) (by show 3 ≤ 6; omega) rfl
theorem m29_69i : M29 69 [l0, l1, l2, l3, .val (.int z), l5] ((.int v) :: st) H Q = M29 71 [l0, l1, l2, l3, .val (.int v), l5] st H Q := w_st (i := 4) (p := isI) (dc (.istore 4, 2)) rfl rfl rfl rfl rfl rfl
theorem m29_71 : M29 71 [l0, l1, l2, l3, .val (.int v4), l5] st H Q = if 4 < v4 then M29 77 [l0, l1, l2, l3, .val (.int v4), l5] st H Q else M29 82 [l0, l1, l2, l3, .val (.int v4), l5] st H Q := (w_x (dc (.iload 4, 2)) rfl).trans ((w_ki 4 (dc (.iconst 4, 1)) rfl).trans (w_icmpN (dc (.if_icmp .le 8, 3)) (i_le v4 4) rfl))
theorem m29_82 : M29 82 [.val (.ref b), l1, l2, l3, l4, l5] st H Q = M29 84 [.val (.ref b), l1, l2, l3, l4, l5] (.int 3 :: .ref b :: st) H Q := (w_x (dc (.aload_n 0, 1)) rfl).trans (w_ki 3 (dc (.iconst 3, 1)) rfl)
theorem cr29_486 : vR tables_1 dn y29 486 = some (true, y32, prog_1_method_65_code, 2, (some .boolean), 1, 61) := pR_of (cR_of (by decide +kernel) rc_32 dn_32 dn_29 (sig := ⟨[.int], some .boolean⟩) (by decide +kernel) (by decide +kernel) rfl rfl) (by decide +kernel) (by decide +kernel)
theorem m29_84 (a0 : Int32) : M29 84 ls [.int a0, .ref b] (put b e s A L B g) Q = M32 0 [.val (.ref b), .val (.int a0)] [] (put b e s A L B g) (fun v H1 => M29 87 ls (v.toList ++ []) H1 Q) := w_virt (as := [.int a0]) (rest := []) (a := b) (dc (.invokevirtual 486, 3)) cr29_486 put_o rfl rfl (Nat.le_of_ble_eq_true rfl) (by show 2 ≤ 2; omega) rfl
theorem m29_87 : M29 87 ls (.int x :: st) H Q = if x = 0 then M29 90 ls st H Q else M29 91 ls st H Q := w_ifN (dc (.ifCond .ne 4, 3)) (z_ne x) rfl
theorem m29_91 : M29 91 [.val (.ref b), l1, l2, l3, l4, .unset] st (put b e s A L B g) Q = (inB (((s 33) - 1)) (A 14) ∧ M29 110 [.val (.ref b), l1, l2, l3, l4, .val (.int ((s 33) - 1))] st (put b e s (ou A 14 (setA (A 14) (((s 33) - 1)) (s 42))) L B g) Q) := (w_x (dc (.aload_n 0, 1)) rfl).trans ((w_get (dc (.getfield 316, 3)) gf_316 put_o rfl).trans ((w_ki 1 (dc (.iconst 1, 1)) rfl).trans ((w_x (dc (.isub, 1)) rfl).trans ((w_st (i := 5) (p := isI) (dc (.istore 5, 2)) rfl rfl rfl rfl rfl rfl).trans ((w_x (dc (.aload_n 0, 1)) rfl).trans ((w_get (dc (.getfield 125, 3)) gf_125 put_o rfl).trans ((w_x (dc (.iload 5, 2)) rfl).trans ((w_x (dc (.aload_n 0, 1)) rfl).trans ((w_get (dc (.getfield 242, 3)) gf_242 put_o rfl).trans (w_ist (dc (.iastore, 1)) rfl put_a14 (Nat.zero_le _) rfl put_w14))))))))))
theorem m29_110 : M29 110 [.val (.ref b), l1, l2, l3, l4, .val (.int v5)] st (put b e s A L B g) Q = (inB v5 (A 12) ∧ M29 121 [.val (.ref b), l1, l2, l3, l4, .val (.int v5)] st (put b e s (ou A 12 (setA (A 12) v5 (s 34))) L B g) Q) := (w_x (dc (.aload_n 0, 1)) rfl).trans ((w_get (dc (.getfield 119, 3)) gf_119 put_o rfl).trans ((w_x (dc (.iload 5, 2)) rfl).trans ((w_x (dc (.aload_n 0, 1)) rfl).trans ((w_get (dc (.getfield 344, 3)) gf_344 put_o rfl).trans (w_ist (dc (.iastore, 1)) rfl put_a12 (Nat.zero_le _) rfl put_w12)))))
theorem m29_121 : M29 121 [.val (.ref b), l1, l2, l3, l4, .val (.int v5)] st (put b e s A L B g) Q = (inB v5 (A 13) ∧ M29 132 [.val (.ref b), l1, l2, l3, l4, .val (.int v5)] st (put b e s (ou A 13 (setA (A 13) v5 (s 35))) L B g) Q) := (w_x (dc (.aload_n 0, 1)) rfl).trans ((w_get (dc (.getfield 122, 3)) gf_122 put_o rfl).trans ((w_x (dc (.iload 5, 2)) rfl).trans ((w_x (dc (.aload_n 0, 1)) rfl).trans ((w_get (dc (.getfield 347, 3)) gf_347 put_o rfl).trans (w_ist (dc (.iastore, 1)) rfl put_a13 (Nat.zero_le _) rfl put_w13)))))
theorem m29_132 : M29 132 [.val (.ref b), l1, l2, l3, l4, .val (.int v5)] st (put b e s A L B g) Q = (inB v5 (A 15) ∧ M29 143 [.val (.ref b), l1, l2, l3, l4, .val (.int v5)] st (put b e s (ou A 15 (setA (A 15) v5 (s 43))) L B g) Q) := (w_x (dc (.aload_n 0, 1)) rfl).trans ((w_get (dc (.getfield 128, 3)) gf_128 put_o rfl).trans ((w_x (dc (.iload 5, 2)) rfl).trans ((w_x (dc (.aload_n 0, 1)) rfl).trans ((w_get (dc (.getfield 212, 3)) gf_212 put_o rfl).trans (w_ist (dc (.iastore, 1)) rfl put_a15 (Nat.zero_le _) rfl put_w15)))))
theorem m29_143 : M29 143 [.val (.ref b), l1, l2, l3, .val (.int v4), .val (.int v5)] st (put b e s A L B g) Q = (inB v5 (A 16) ∧ M29 152 [.val (.ref b), l1, l2, l3, .val (.int v4), .val (.int v5)] st (put b e s (ou A 16 (setA (A 16) v5 v4)) L B g) Q) := (w_x (dc (.aload_n 0, 1)) rfl).trans ((w_get (dc (.getfield 131, 3)) gf_131 put_o rfl).trans ((w_x (dc (.iload 5, 2)) rfl).trans ((w_x (dc (.iload 4, 2)) rfl).trans (w_ist (dc (.iastore, 1)) rfl put_a16 (Nat.zero_le _) rfl put_w16))))
theorem m29_152 : M29 152 [l0, l1, l2, l3, .val (.int v4), l5] st H Q = if 0 < v4 then M29 157 [l0, l1, l2, l3, .val (.int v4), l5] st H Q else M29 165 [l0, l1, l2, l3, .val (.int v4), l5] st H Q := (w_x (dc (.iload 4, 2)) rfl).trans (w_ifN (dc (.ifCond .le 11, 3)) (z_le v4) rfl)
theorem m29_157 : M29 157 [.val (.ref b), l1, .val (.int v2), .val (.int v3), l4, .val (.int v5)] st H Q = M29 162 [.val (.ref b), l1, .val (.int v2), .val (.int v3), l4, .val (.int v5)] (.int v3 :: .int v2 :: .int v5 :: .ref b :: st) H Q := (w_x (dc (.aload_n 0, 1)) rfl).trans ((w_x (dc (.iload 5, 2)) rfl).trans ((w_x (dc (.iload_n 2, 1)) rfl).trans (w_x (dc (.iload_n 3, 1)) rfl)))
theorem cr29_496 : vR tables_1 dn y29 496 = some (true, y33, prog_1_method_73_code, 7, none, 3, 37) := pR_of (cR_of (by decide +kernel) rc_33 dn_33 dn_29 (sig := ⟨[.int, .int, .int], none⟩) (by decide +kernel) (by decide +kernel) rfl rfl) (by decide +kernel) (by decide +kernel)
theorem m29_162 (a0 : Int32) (a1 : Int32) (a2 : Int32) : M29 162 ls [.int a2, .int a1, .int a0, .ref b] (put b e s A L B g) Q = M33 0 [.val (.ref b), .val (.int a0), .val (.int a1), .val (.int a2), .unset, .unset, .unset] [] (put b e s A L B g) (fun v H1 => M29 165 ls (v.toList ++ []) H1 Q) := w_virt (as := [.int a2, .int a1, .int a0]) (rest := []) (a := b) (dc (.invokevirtual 496, 3)) cr29_496 put_o rfl rfl (Nat.le_of_ble_eq_true rfl) (by show 4 ≤ 7; omega) rfl
theorem m29_165 : M29 165 [.val (.ref b), .val (.int v1), l2, l3, l4, l5] st (put b e s A L B g) Q = (inB v1 (A 7) ∧ M29 173 [.val (.ref b), .val (.int v1), l2, l3, l4, l5] (.int (getA (A 7) v1) :: .int v1 :: .ref b :: st) (put b e s A L B g) Q) := (w_x (dc (.aload_n 0, 1)) rfl).trans ((w_x (dc (.iload_n 1, 1)) rfl).trans ((w_x (dc (.aload_n 0, 1)) rfl).trans ((w_get (dc (.getfield 103, 3)) gf_103 put_o rfl).trans ((w_x (dc (.iload_n 1, 1)) rfl).trans (w_ild (dc (.iaload, 1)) rfl put_a7)))))
theorem cr29_340 : vR tables_1 dn y29 340 = some (true, y8, prog_1_method_40_code, 3, none, 2, 60) := pR_of (cR_of (by decide +kernel) rc_8 dn_8 dn_29 (sig := ⟨[.int, .int], none⟩) (by decide +kernel) (by decide +kernel) rfl rfl) (by decide +kernel) (by decide +kernel)
theorem m29_173 (a0 : Int32) (a1 : Int32) : M29 173 ls [.int a1, .int a0, .ref b] (put b e s A L B g) Q = M8 0 [.val (.ref b), .val (.int a0), .val (.int a1)] [] (put b e s A L B g) (fun v H1 => M29 176 ls (v.toList ++ []) H1 Q) := w_virt (as := [.int a1, .int a0]) (rest := []) (a := b) (dc (.invokevirtual 340, 3)) cr29_340 put_o rfl rfl (Nat.le_of_ble_eq_true rfl) (by show 3 ≤ 3; omega) rfl
theorem m29_176 : M29 176 ls [] H Q = Q none H := w_vret (dc (.return_, 1)) rfl
theorem m30_0 : M30 0 [.val (.ref b)] st (put b e s A L B g) Q = if (s 47) = 0 then M30 19 [.val (.ref b)] st (put b e s A L B g) Q else M30 7 [.val (.ref b)] st (put b e s A L B g) Q := (w_x (dc (.aload_n 0, 1)) rfl).trans ((w_get (dc (.getfield 421, 3)) gf_421 put_o rfl).trans (w_if (dc (.ifCond .eq 15, 3)) (z_eq (s 47)) rfl))
theorem m30_7 : M30 7 [.val (.ref b)] st (put b e s A L B g) Q = M30 16 [.val (.ref b)] (.int (s 41) :: .long (L 0) :: .ref b :: st) (put b e s A L B g) Q := (w_x (dc (.aload_n 0, 1)) rfl).trans ((w_x (dc (.aload_n 0, 1)) rfl).trans ((w_get (dc (.getfield 424, 3)) gf_424 put_o rfl).trans ((w_x (dc (.aload_n 0, 1)) rfl).trans (w_get (dc (.getfield 239, 3)) gf_239 put_o rfl))))
theorem cr30_428 : vR tables_1 dn y30 428 = some (true, y45, prog_1_method_56_code, 4, none, 2, 0) := pR_of (cR_of (by decide +kernel) rc_45 dn_45 dn_30 (sig := ⟨[.long, .int], none⟩) (by decide +kernel) (by decide +kernel) rfl rfl) (by decide +kernel) (by decide +kernel)
theorem m30_16 (a0 : Int64) (a1 : Int32) : M30 16 ls [.int a1, .long a0, .ref b] (put b e s A L B g) Q = M45 0 [.val (.ref b), .val (.long a0), .second, .val (.int a1)] [] (put b e s A L B g) (fun v H1 => M30 19 ls (v.toList ++ []) H1 Q) := w_virt (as := [.int a1, .long a0]) (rest := []) (a := b) (dc (.invokevirtual 428, 3)) cr30_428 put_o rfl rfl (Nat.le_of_ble_eq_true rfl) (by show 4 ≤ 4; omega) rfl
theorem m30_19 : M30 19 ls [] H Q = Q none H := w_vret (dc (.return_, 1)) rfl
theorem m31_0 : M31 0 [l0, .val (.int v1), l2, .unset, .unset, .unset] st H Q = M31 8 [l0, .val (.int v1), l2, .val (.int 1), .val (.int 0), .val (.int v1)] st H Q := (w_ki 1 (dc (.iconst 1, 1)) rfl).trans ((w_st (i := 3) (p := isI) (dc (.istore_n 3, 1)) rfl rfl rfl rfl rfl rfl).trans ((w_ki 0 (dc (.iconst 0, 1)) rfl).trans ((w_st (i := 4) (p := isI) (dc (.istore 4, 2)) rfl rfl rfl rfl rfl rfl).trans ((w_x (dc (.iload_n 1, 1)) rfl).trans (w_st (i := 5) (p := isI) (dc (.istore 5, 2)) rfl rfl rfl rfl rfl rfl)))))
theorem m31_8 : M31 8 [l0, l1, .val (.int v2), l3, l4, .val (.int v5)] st H Q = if v5 < v2 then M31 14 [l0, l1, .val (.int v2), l3, l4, .val (.int v5)] st H Q else M31 57 [l0, l1, .val (.int v2), l3, l4, .val (.int v5)] st H Q := (w_x (dc (.iload 5, 2)) rfl).trans ((w_x (dc (.iload_n 2, 1)) rfl).trans (w_icmpN (dc (.if_icmp .ge 46, 3)) (i_ge v5 v2) rfl))
theorem m31_14 : M31 14 [l0, l1, l2, l3, l4, .val (.int v5)] st H Q = if v5 < 640 then M31 22 [l0, l1, l2, l3, l4, .val (.int v5)] st H Q else M31 57 [l0, l1, l2, l3, l4, .val (.int v5)] st H Q := (w_x (dc (.iload 5, 2)) rfl).trans ((w_ki 640 (dc (.sipush 640, 3)) rfl).trans (w_icmpN (dc (.if_icmp .ge 38, 3)) (i_ge v5 640) rfl))
theorem m31_22 : M31 22 [.val (.ref b), l1, l2, l3, l4, .val (.int v5)] st (put b e s A L B g) Q = (inB v5 (A 19) ∧ M31 29 [.val (.ref b), l1, l2, l3, l4, .val (.int v5)] (.int (getA (A 19) v5) :: st) (put b e s A L B g) Q) := (w_x (dc (.aload_n 0, 1)) rfl).trans ((w_get (dc (.getfield 140, 3)) gf_140 put_o rfl).trans ((w_x (dc (.iload 5, 2)) rfl).trans (w_ild (dc (.caload, 1)) rfl put_a19)))
theorem m31_29 : M31 29 ls st H Q = M31 31 ls (.int 32 :: st) H Q := w_con (dc (.bipush 32, 2)) rfl (by decide)
theorem m31_31 : M31 31 ls (.int y :: .int x :: st) H Q = if x = y then M31 36 ls st H Q else M31 34 ls st H Q := w_icmp (dc (.if_icmp .eq 5, 3)) (i_eq x y) rfl
theorem m31_34 : M31 34 [l0, l1, l2, .val (.int z), l4, l5] st H Q = M31 36 [l0, l1, l2, .val (.int 0), l4, l5] st H Q := (w_ki 0 (dc (.iconst 0, 1)) rfl).trans (w_st (i := 3) (p := isI) (dc (.istore_n 3, 1)) rfl rfl rfl rfl rfl rfl)
theorem m31_36 : M31 36 [.val (.ref b), l1, l2, l3, l4, .val (.int v5)] st (put b e s A L B g) Q = (inB v5 (A 19) ∧ M31 43 [.val (.ref b), l1, l2, l3, l4, .val (.int v5)] (.int (getA (A 19) v5) :: st) (put b e s A L B g) Q) := (w_x (dc (.aload_n 0, 1)) rfl).trans ((w_get (dc (.getfield 140, 3)) gf_140 put_o rfl).trans ((w_x (dc (.iload 5, 2)) rfl).trans (w_ild (dc (.caload, 1)) rfl put_a19)))
theorem m31_43 : M31 43 ls st H Q = M31 45 ls (.int 44 :: st) H Q := w_con (dc (.bipush 44, 2)) rfl (by decide)
theorem m31_45 : M31 45 ls (.int y :: .int x :: st) H Q = if x = y then M31 48 ls st H Q else M31 51 ls st H Q := w_icmpN (dc (.if_icmp .ne 6, 3)) (i_ne x y) rfl
theorem m31_51 : M31 51 [l0, l1, l2, l3, l4, .val (.int v5)] st H Q = M31 8 [l0, l1, l2, l3, l4, .val (.int (v5 + 1))] st H Q := (w_iinc (dc (.iinc 5 1, 3)) rfl (by decide) rfl).trans (w_x (dc (.goto (-46), 3)) rfl)
theorem m31_57 : M31 57 [l0, l1, l2, .val (.int v3), l4, l5] st H Q = if v3 = 0 then M31 65 [l0, l1, l2, .val (.int v3), l4, l5] st H Q else M31 61 [l0, l1, l2, .val (.int v3), l4, l5] st H Q := (w_x (dc (.iload_n 3, 1)) rfl).trans (w_if (dc (.ifCond .eq 7, 3)) (z_eq v3) rfl)
theorem m31_65 : M31 65 [l0, l1, l2, l3, .val (.int v4), l5] st H Q = M31 69 [l0, l1, l2, l3, .val (.int v4), l5] (.int (v4 + 1) :: st) H Q := (w_x (dc (.iload 4, 2)) rfl).trans ((w_ki 1 (dc (.iconst 1, 1)) rfl).trans (w_x (dc (.iadd, 1)) rfl))
theorem m31_69 : M31 69 ls (.int z :: st) H Q = Q (some (.int z)) H := w_iret (dc (.ireturn, 1)) rfl
theorem m32_0 : M32 0 [.val (.ref b), l1] st (put b e s A L B g) Q = if (s 33) < 8 then M32 15 [.val (.ref b), l1] st (put b e s A L B g) Q else M32 9 [.val (.ref b), l1] st (put b e s A L B g) Q := (w_x (dc (.aload_n 0, 1)) rfl).trans ((w_get (dc (.getfield 316, 3)) gf_316 put_o rfl).trans ((w_ki 8 (dc (.bipush 8, 2)) rfl).trans (w_icmp (dc (.if_icmp .lt 9, 3)) (i_lt (s 33) 8) rfl)))
theorem m32_15 : M32 15 [.val (.ref b), .val (.int v1)] st (put b e s A L B g) Q = (inB (s 33) (A 9) ∧ M32 25 [.val (.ref b), .val (.int v1)] st (put b e s (ou A 9 (setA (A 9) (s 33) v1)) L B g) Q) := (w_x (dc (.aload_n 0, 1)) rfl).trans ((w_get (dc (.getfield 109, 3)) gf_109 put_o rfl).trans ((w_x (dc (.aload_n 0, 1)) rfl).trans ((w_get (dc (.getfield 316, 3)) gf_316 put_o rfl).trans ((w_x (dc (.iload_n 1, 1)) rfl).trans (w_ist (dc (.iastore, 1)) rfl put_a9 (Nat.zero_le _) rfl put_w9)))))
theorem m32_25 : M32 25 [.val (.ref b), l1] st (put b e s A L B g) Q = (inB (s 33) (A 10) ∧ M32 35 [.val (.ref b), l1] st (put b e s (ou A 10 (setA (A 10) (s 33) (nar .boolean 0))) L B g) Q) := (w_x (dc (.aload_n 0, 1)) rfl).trans ((w_get (dc (.getfield 112, 3)) gf_112 put_o rfl).trans ((w_x (dc (.aload_n 0, 1)) rfl).trans ((w_get (dc (.getfield 316, 3)) gf_316 put_o rfl).trans ((w_ki 0 (dc (.iconst 0, 1)) rfl).trans (w_ist (dc (.bastore, 1)) rfl put_a10 (Nat.zero_le _) rfl put_w10)))))
theorem m32_35 : M32 35 [.val (.ref b), l1] st (put b e s A L B g) Q = (inB (s 33) (A 11) ∧ M32 45 [.val (.ref b), l1] st (put b e s (ou A 11 (setA (A 11) (s 33) 0)) L B g) Q) := (w_x (dc (.aload_n 0, 1)) rfl).trans ((w_get (dc (.getfield 116, 3)) gf_116 put_o rfl).trans ((w_x (dc (.aload_n 0, 1)) rfl).trans ((w_get (dc (.getfield 316, 3)) gf_316 put_o rfl).trans ((w_ki 0 (dc (.iconst 0, 1)) rfl).trans (w_ist (dc (.iastore, 1)) rfl put_a11 (Nat.zero_le _) rfl put_w11)))))
theorem m32_45 : M32 45 [.val (.ref b), l1] st (put b e s A L B g) Q = (inB (s 33) (A 16) ∧ M32 55 [.val (.ref b), l1] st (put b e s (ou A 16 (setA (A 16) (s 33) 0)) L B g) Q) := (w_x (dc (.aload_n 0, 1)) rfl).trans ((w_get (dc (.getfield 131, 3)) gf_131 put_o rfl).trans ((w_x (dc (.aload_n 0, 1)) rfl).trans ((w_get (dc (.getfield 316, 3)) gf_316 put_o rfl).trans ((w_ki 0 (dc (.iconst 0, 1)) rfl).trans (w_ist (dc (.iastore, 1)) rfl put_a16 (Nat.zero_le _) rfl put_w16)))))
theorem pf32_316 : pfR tables_1 y32.cls y32.name 316 = some ("MacroAssembler", 64, .int) := by decide +kernel
theorem m32_55 : M32 55 [.val (.ref b), l1] st (put b e s A L B g) Q = M32 65 [.val (.ref b), l1] st (put b e (ou s 33 (((s 33) + 1))) A L B g) Q := (w_x (dc (.aload_n 0, 1)) rfl).trans ((w_x (dc (.dup, 1)) rfl).trans ((w_get (dc (.getfield 316, 3)) gf_316 put_o rfl).trans ((w_ki 1 (dc (.iconst 1, 1)) rfl).trans ((w_x (dc (.iadd, 1)) rfl).trans (w_put (dc (.putfield 316, 3)) pf32_316 put_o (Nat.zero_le _) (by show 64 < 90; omega) rfl put_s33)))))
theorem m32_65 : M32 65 ls st H Q = M32 66 ls (.int 1 :: st) H Q := w_con (dc (.iconst 1, 1)) rfl (by decide)
theorem m32_66 : M32 66 ls (.int z :: st) H Q = Q (some (.int (nar .boolean z))) H := w_iretN (dc (.ireturn, 1)) rfl (by simp)
theorem m33_0 : M33 0 [l0, l1, .val (.int v2), l3, .unset, .unset, .unset] st H Q = M33 9 [l0, l1, .val (.int v2), l3, .val (.int 0), .val (.int v2), .val (.int v2)] st H Q := (w_ki 0 (dc (.iconst 0, 1)) rfl).trans ((w_st (i := 4) (p := isI) (dc (.istore 4, 2)) rfl rfl rfl rfl rfl rfl).trans ((w_x (dc (.iload_n 2, 1)) rfl).trans ((w_st (i := 5) (p := isI) (dc (.istore 5, 2)) rfl rfl rfl rfl rfl rfl).trans ((w_x (dc (.iload_n 2, 1)) rfl).trans (w_st (i := 6) (p := isI) (dc (.istore 6, 2)) rfl rfl rfl rfl rfl rfl)))))
theorem m33_9 : M33 9 [l0, l1, l2, .val (.int v3), l4, l5, .val (.int v6)] st H Q = if v3 < v6 then M33 76 [l0, l1, l2, .val (.int v3), l4, l5, .val (.int v6)] st H Q else M33 15 [l0, l1, l2, .val (.int v3), l4, l5, .val (.int v6)] st H Q := (w_x (dc (.iload 6, 2)) rfl).trans ((w_x (dc (.iload_n 3, 1)) rfl).trans (w_icmp (dc (.if_icmp .gt 64, 3)) (i_gt v6 v3) rfl))
theorem m33_15 : M33 15 [l0, l1, l2, l3, l4, l5, .val (.int v6)] st H Q = if v6 < 641 then M33 23 [l0, l1, l2, l3, l4, l5, .val (.int v6)] st H Q else M33 76 [l0, l1, l2, l3, l4, l5, .val (.int v6)] st H Q := (w_x (dc (.iload 6, 2)) rfl).trans ((w_ki 641 (dc (.sipush 641, 3)) rfl).trans (w_icmpN (dc (.if_icmp .ge 56, 3)) (i_ge v6 641) rfl))
theorem m33_23 : M33 23 [l0, l1, l2, .val (.int v3), l4, l5, .val (.int v6)] st H Q = if v6 = v3 then M33 41 [l0, l1, l2, .val (.int v3), l4, l5, .val (.int v6)] st H Q else M33 29 [l0, l1, l2, .val (.int v3), l4, l5, .val (.int v6)] st H Q := (w_x (dc (.iload 6, 2)) rfl).trans ((w_x (dc (.iload_n 3, 1)) rfl).trans (w_icmp (dc (.if_icmp .eq 15, 3)) (i_eq v6 v3) rfl))
theorem m33_29 : M33 29 [.val (.ref b), l1, l2, l3, l4, l5, .val (.int v6)] st (put b e s A L B g) Q = (inB v6 (A 19) ∧ M33 36 [.val (.ref b), l1, l2, l3, l4, l5, .val (.int v6)] (.int (getA (A 19) v6) :: st) (put b e s A L B g) Q) := (w_x (dc (.aload_n 0, 1)) rfl).trans ((w_get (dc (.getfield 140, 3)) gf_140 put_o rfl).trans ((w_x (dc (.iload 6, 2)) rfl).trans (w_ild (dc (.caload, 1)) rfl put_a19)))
theorem m33_36 : M33 36 ls st H Q = M33 38 ls (.int 44 :: st) H Q := w_con (dc (.bipush 44, 2)) rfl (by decide)
theorem m33_38 : M33 38 ls (.int y :: .int x :: st) H Q = if x = y then M33 41 ls st H Q else M33 70 ls st H Q := w_icmpN (dc (.if_icmp .ne 32, 3)) (i_ne x y) rfl
theorem m33_41 : M33 41 [l0, l1, l2, l3, .val (.int v4), l5, l6] st H Q = if v4 < 4 then M33 47 [l0, l1, l2, l3, .val (.int v4), l5, l6] st H Q else M33 61 [l0, l1, l2, l3, .val (.int v4), l5, l6] st H Q := (w_x (dc (.iload 4, 2)) rfl).trans ((w_ki 4 (dc (.iconst 4, 1)) rfl).trans (w_icmpN (dc (.if_icmp .ge 17, 3)) (i_ge v4 4) rfl))
theorem m33_47 : M33 47 [.val (.ref b), .val (.int v1), l2, l3, .val (.int v4), .val (.int v5), .val (.int v6)] st H Q = M33 58 [.val (.ref b), .val (.int v1), l2, l3, .val (.int v4), .val (.int v5), .val (.int v6)] (.int v6 :: .int v5 :: .int ((v1 * 4) + v4) :: .ref b :: st) H Q := (w_x (dc (.aload_n 0, 1)) rfl).trans ((w_x (dc (.iload_n 1, 1)) rfl).trans ((w_ki 4 (dc (.iconst 4, 1)) rfl).trans ((w_x (dc (.imul, 1)) rfl).trans ((w_x (dc (.iload 4, 2)) rfl).trans ((w_x (dc (.iadd, 1)) rfl).trans ((w_x (dc (.iload 5, 2)) rfl).trans (w_x (dc (.iload 6, 2)) rfl)))))))
theorem cr33_500 : vR tables_1 dn y33 500 = some (true, y34, prog_1_method_74_code, 8, none, 3, 0) := pR_of (cR_of (by decide +kernel) rc_34 dn_34 dn_33 (sig := ⟨[.int, .int, .int], none⟩) (by decide +kernel) (by decide +kernel) rfl rfl) (by decide +kernel) (by decide +kernel)
theorem m33_58 (a0 : Int32) (a1 : Int32) (a2 : Int32) : M33 58 ls [.int a2, .int a1, .int a0, .ref b] (put b e s A L B g) Q = M34 0 [.val (.ref b), .val (.int a0), .val (.int a1), .val (.int a2), .unset, .unset, .unset, .unset] [] (put b e s A L B g) (fun v H1 => M33 61 ls (v.toList ++ []) H1 Q) := w_virt (as := [.int a2, .int a1, .int a0]) (rest := []) (a := b) (dc (.invokevirtual 500, 3)) cr33_500 put_o rfl rfl (Nat.le_of_ble_eq_true rfl) (by show 4 ≤ 8; omega) rfl
theorem m33_61 : M33 61 [l0, l1, l2, l3, .val (.int v4), .val (.int z), .val (.int v6)] st H Q = M33 70 [l0, l1, l2, l3, .val (.int (v4 + 1)), .val (.int (v6 + 1)), .val (.int v6)] st H Q := (w_iinc (dc (.iinc 4 1, 3)) rfl (by decide) rfl).trans ((w_x (dc (.iload 6, 2)) rfl).trans ((w_ki 1 (dc (.iconst 1, 1)) rfl).trans ((w_x (dc (.iadd, 1)) rfl).trans (w_st (i := 5) (p := isI) (dc (.istore 5, 2)) rfl rfl rfl rfl rfl rfl))))
theorem m33_70 : M33 70 [l0, l1, l2, l3, l4, l5, .val (.int v6)] st H Q = M33 9 [l0, l1, l2, l3, l4, l5, .val (.int (v6 + 1))] st H Q := (w_iinc (dc (.iinc 6 1, 3)) rfl (by decide) rfl).trans (w_x (dc (.goto (-64), 3)) rfl)
theorem m33_76 : M33 76 ls [] H Q = Q none H := w_vret (dc (.return_, 1)) rfl
theorem m34_0 : M34 0 [l0, l1, .val (.int v2), .val (.int v3), .unset, .unset, .unset, l7] st H Q = M34 9 [l0, l1, .val (.int v2), .val (.int v3), .val (.int v2), .val (.int v3), .val (.int 0), l7] st H Q := (w_x (dc (.iload_n 2, 1)) rfl).trans ((w_st (i := 4) (p := isI) (dc (.istore 4, 2)) rfl rfl rfl rfl rfl rfl).trans ((w_x (dc (.iload_n 3, 1)) rfl).trans ((w_st (i := 5) (p := isI) (dc (.istore 5, 2)) rfl rfl rfl rfl rfl rfl).trans ((w_ki 0 (dc (.iconst 0, 1)) rfl).trans (w_st (i := 6) (p := isI) (dc (.istore 6, 2)) rfl rfl rfl rfl rfl rfl)))))
theorem m34_9 : M34 9 [l0, l1, l2, l3, l4, l5, .val (.int v6), l7] st H Q = if v6 < 641 then M34 17 [l0, l1, l2, l3, l4, l5, .val (.int v6), l7] st H Q else M34 45 [l0, l1, l2, l3, l4, l5, .val (.int v6), l7] st H Q := (w_x (dc (.iload 6, 2)) rfl).trans ((w_ki 641 (dc (.sipush 641, 3)) rfl).trans (w_icmpN (dc (.if_icmp .ge 31, 3)) (i_ge v6 641) rfl))
theorem m34_17 : M34 17 [l0, l1, l2, l3, .val (.int v4), .val (.int v5), l6, l7] st H Q = if v4 < v5 then M34 24 [l0, l1, l2, l3, .val (.int v4), .val (.int v5), l6, l7] st H Q else M34 45 [l0, l1, l2, l3, .val (.int v4), .val (.int v5), l6, l7] st H Q := (w_x (dc (.iload 4, 2)) rfl).trans ((w_x (dc (.iload 5, 2)) rfl).trans (w_icmpN (dc (.if_icmp .ge 24, 3)) (i_ge v4 v5) rfl))
theorem m34_24 : M34 24 [.val (.ref b), l1, l2, l3, .val (.int v4), l5, l6, l7] st (put b e s A L B g) Q = (inB v4 (A 19) ∧ M34 31 [.val (.ref b), l1, l2, l3, .val (.int v4), l5, l6, l7] (.int (getA (A 19) v4) :: st) (put b e s A L B g) Q) := (w_x (dc (.aload_n 0, 1)) rfl).trans ((w_get (dc (.getfield 140, 3)) gf_140 put_o rfl).trans ((w_x (dc (.iload 4, 2)) rfl).trans (w_ild (dc (.caload, 1)) rfl put_a19)))
theorem m34_31 : M34 31 ls st H Q = M34 33 ls (.int 32 :: st) H Q := w_con (dc (.bipush 32, 2)) rfl (by decide)
theorem m34_33 : M34 33 ls (.int y :: .int x :: st) H Q = if x = y then M34 36 ls st H Q else M34 45 ls st H Q := w_icmpN (dc (.if_icmp .ne 12, 3)) (i_ne x y) rfl
theorem m34_36 : M34 36 [l0, l1, l2, l3, .val (.int v4), l5, .val (.int v6), l7] st H Q = M34 9 [l0, l1, l2, l3, .val (.int (v4 + 1)), l5, .val (.int (v6 + 1)), l7] st H Q := (w_iinc (dc (.iinc 4 1, 3)) rfl (by decide) rfl).trans ((w_iinc (dc (.iinc 6 1, 3)) rfl (by decide) rfl).trans (w_x (dc (.goto (-33), 3)) rfl))
theorem m34_45 : M34 45 [l0, l1, l2, l3, l4, l5, .val (.int z), l7] st H Q = M34 48 [l0, l1, l2, l3, l4, l5, .val (.int 0), l7] st H Q := (w_ki 0 (dc (.iconst 0, 1)) rfl).trans (w_st (i := 6) (p := isI) (dc (.istore 6, 2)) rfl rfl rfl rfl rfl rfl)
theorem m34_48 : M34 48 [l0, l1, l2, l3, l4, l5, .val (.int v6), l7] st H Q = if v6 < 641 then M34 56 [l0, l1, l2, l3, l4, l5, .val (.int v6), l7] st H Q else M34 86 [l0, l1, l2, l3, l4, l5, .val (.int v6), l7] st H Q := (w_x (dc (.iload 6, 2)) rfl).trans ((w_ki 641 (dc (.sipush 641, 3)) rfl).trans (w_icmpN (dc (.if_icmp .ge 33, 3)) (i_ge v6 641) rfl))
theorem m34_56 : M34 56 [l0, l1, l2, l3, .val (.int v4), .val (.int v5), l6, l7] st H Q = if v4 < v5 then M34 63 [l0, l1, l2, l3, .val (.int v4), .val (.int v5), l6, l7] st H Q else M34 86 [l0, l1, l2, l3, .val (.int v4), .val (.int v5), l6, l7] st H Q := (w_x (dc (.iload 5, 2)) rfl).trans ((w_x (dc (.iload 4, 2)) rfl).trans (w_icmpN (dc (.if_icmp .le 26, 3)) (i_le v5 v4) rfl))
theorem m34_63 : M34 63 [.val (.ref b), l1, l2, l3, l4, .val (.int v5), l6, l7] st (put b e s A L B g) Q = (inB (v5 - 1) (A 19) ∧ M34 72 [.val (.ref b), l1, l2, l3, l4, .val (.int v5), l6, l7] (.int (getA (A 19) (v5 - 1)) :: st) (put b e s A L B g) Q) := (w_x (dc (.aload_n 0, 1)) rfl).trans ((w_get (dc (.getfield 140, 3)) gf_140 put_o rfl).trans ((w_x (dc (.iload 5, 2)) rfl).trans ((w_ki 1 (dc (.iconst 1, 1)) rfl).trans ((w_x (dc (.isub, 1)) rfl).trans (w_ild (dc (.caload, 1)) rfl put_a19)))))
theorem m34_72 : M34 72 ls st H Q = M34 74 ls (.int 32 :: st) H Q := w_con (dc (.bipush 32, 2)) rfl (by decide)
theorem m34_74 : M34 74 ls (.int y :: .int x :: st) H Q = if x = y then M34 77 ls st H Q else M34 86 ls st H Q := w_icmpN (dc (.if_icmp .ne 12, 3)) (i_ne x y) rfl
theorem m34_86 : M34 86 [l0, l1, l2, l3, .val (.int v4), .val (.int v5), .val (.int z), l7] st H Q = if 81 < (v5 - v4) then M34 100 [l0, l1, l2, l3, .val (.int v4), .val (.int v5), .val (.int (v5 - v4)), l7] st H Q else M34 104 [l0, l1, l2, l3, .val (.int v4), .val (.int v5), .val (.int (v5 - v4)), l7] st H Q := (w_x (dc (.iload 5, 2)) rfl).trans ((w_x (dc (.iload 4, 2)) rfl).trans ((w_x (dc (.isub, 1)) rfl).trans ((w_st (i := 6) (p := isI) (dc (.istore 6, 2)) rfl rfl rfl rfl rfl rfl).trans ((w_x (dc (.iload 6, 2)) rfl).trans ((w_ki 81 (dc (.bipush 81, 2)) rfl).trans (w_icmpN (dc (.if_icmp .le 7, 3)) (i_le (v5 - v4) 81) rfl))))))
theorem m34_104 : M34 104 [.val (.ref b), .val (.int v1), l2, l3, l4, l5, .val (.int v6), l7] st (put b e s A L B g) Q = (inB v1 (A 17) ∧ M34 112 [.val (.ref b), .val (.int v1), l2, l3, l4, l5, .val (.int v6), l7] st (put b e s (ou A 17 (setA (A 17) v1 v6)) L B g) Q) := (w_x (dc (.aload_n 0, 1)) rfl).trans ((w_get (dc (.getfield 134, 3)) gf_134 put_o rfl).trans ((w_x (dc (.iload_n 1, 1)) rfl).trans ((w_x (dc (.iload 6, 2)) rfl).trans (w_ist (dc (.iastore, 1)) rfl put_a17 (Nat.zero_le _) rfl put_w17))))
theorem m34_112 : M34 112 [l0, l1, l2, l3, l4, l5, l6, .unset] st H Q = M34 115 [l0, l1, l2, l3, l4, l5, l6, .val (.int 0)] st H Q := (w_ki 0 (dc (.iconst 0, 1)) rfl).trans (w_st (i := 7) (p := isI) (dc (.istore 7, 2)) rfl rfl rfl rfl rfl rfl)
theorem m34_115 : M34 115 [l0, l1, l2, l3, l4, l5, .val (.int v6), .val (.int v7)] st H Q = if v7 < v6 then M34 122 [l0, l1, l2, l3, l4, l5, .val (.int v6), .val (.int v7)] st H Q else M34 150 [l0, l1, l2, l3, l4, l5, .val (.int v6), .val (.int v7)] st H Q := (w_x (dc (.iload 7, 2)) rfl).trans ((w_x (dc (.iload 6, 2)) rfl).trans (w_icmpN (dc (.if_icmp .ge 31, 3)) (i_ge v7 v6) rfl))
theorem m34_122 : M34 122 [.val (.ref b), .val (.int v1), l2, l3, .val (.int v4), l5, l6, .val (.int v7)] st (put b e s A L B g) Q = (inB (v4 + v7) (A 19) ∧ M34 143 [.val (.ref b), .val (.int v1), l2, l3, .val (.int v4), l5, l6, .val (.int v7)] (.int (getA (A 19) (v4 + v7)) :: .int ((v1 * 81) + v7) :: .ref (b + 21) :: st) (put b e s A L B g) Q) := (w_x (dc (.aload_n 0, 1)) rfl).trans ((w_get (dc (.getfield 137, 3)) gf_137 put_o rfl).trans ((w_x (dc (.iload_n 1, 1)) rfl).trans ((w_ki 81 (dc (.bipush 81, 2)) rfl).trans ((w_x (dc (.imul, 1)) rfl).trans ((w_x (dc (.iload 7, 2)) rfl).trans ((w_x (dc (.iadd, 1)) rfl).trans ((w_x (dc (.aload_n 0, 1)) rfl).trans ((w_get (dc (.getfield 140, 3)) gf_140 put_o rfl).trans ((w_x (dc (.iload 4, 2)) rfl).trans ((w_x (dc (.iload 7, 2)) rfl).trans ((w_x (dc (.iadd, 1)) rfl).trans (w_ild (dc (.caload, 1)) rfl put_a19))))))))))))
theorem m34_143  : M34 143 ls (.int v :: .int j :: .ref (b + 21) :: st) (put b e s A L B g) Q = (inB j (A 18) ∧ M34 144 ls st (put b e s (ou A 18 (setA (A 18) j (nar .char v))) L B g) Q) := w_ist (dc (.castore, 1)) rfl put_a18 (Nat.zero_le _) rfl put_w18
theorem m34_144 : M34 144 [l0, l1, l2, l3, l4, l5, l6, .val (.int v7)] st H Q = M34 115 [l0, l1, l2, l3, l4, l5, l6, .val (.int (v7 + 1))] st H Q := (w_iinc (dc (.iinc 7 1, 3)) rfl (by decide) rfl).trans (w_x (dc (.goto (-32), 3)) rfl)
theorem m34_150 : M34 150 ls [] H Q = Q none H := w_vret (dc (.return_, 1)) rfl
theorem m35_0 : M35 0 [l0, .unset] st H Q = M35 2 [l0, .val (.int 0)] st H Q := (w_ki 0 (dc (.iconst 0, 1)) rfl).trans (w_st (i := 1) (p := isI) (dc (.istore_n 1, 1)) rfl rfl rfl rfl rfl rfl)
theorem m35_2 : M35 2 [.val (.ref b), .val (.int v1)] st (put b e s A L B g) Q = if v1 < (s 33) then M35 10 [.val (.ref b), .val (.int v1)] st (put b e s A L B g) Q else M35 39 [.val (.ref b), .val (.int v1)] st (put b e s A L B g) Q := (w_x (dc (.iload_n 1, 1)) rfl).trans ((w_x (dc (.aload_n 0, 1)) rfl).trans ((w_get (dc (.getfield 316, 3)) gf_316 put_o rfl).trans (w_icmpN (dc (.if_icmp .ge 32, 3)) (i_ge v1 (s 33)) rfl)))
theorem m35_10 : M35 10 [l0, .val (.int v1)] st H Q = if v1 < 8 then M35 16 [l0, .val (.int v1)] st H Q else M35 39 [l0, .val (.int v1)] st H Q := (w_x (dc (.iload_n 1, 1)) rfl).trans ((w_ki 8 (dc (.bipush 8, 2)) rfl).trans (w_icmpN (dc (.if_icmp .ge 26, 3)) (i_ge v1 8) rfl))
theorem m35_16 : M35 16 [.val (.ref b), .val (.int v1)] st (put b e s A L B g) Q = (inB v1 (A 9) ∧ M35 22 [.val (.ref b), .val (.int v1)] (.int (getA (A 9) v1) :: st) (put b e s A L B g) Q) := (w_x (dc (.aload_n 0, 1)) rfl).trans ((w_get (dc (.getfield 109, 3)) gf_109 put_o rfl).trans ((w_x (dc (.iload_n 1, 1)) rfl).trans (w_ild (dc (.iaload, 1)) rfl put_a9)))
theorem m35_22 : M35 22 ls st H Q = M35 23 ls (.int 3 :: st) H Q := w_con (dc (.iconst 3, 1)) rfl (by decide)
theorem m35_23 : M35 23 ls (.int y :: .int x :: st) H Q = if x = y then M35 26 ls st H Q else M35 33 ls st H Q := w_icmpN (dc (.if_icmp .ne 10, 3)) (i_ne x y) rfl
theorem m35_26 : M35 26 [.val (.ref b), .val (.int v1)] st (put b e s A L B g) Q = (inB v1 (A 15) ∧ M35 32 [.val (.ref b), .val (.int v1)] (.int (getA (A 15) v1) :: st) (put b e s A L B g) Q) := (w_x (dc (.aload_n 0, 1)) rfl).trans ((w_get (dc (.getfield 128, 3)) gf_128 put_o rfl).trans ((w_x (dc (.iload_n 1, 1)) rfl).trans (w_ild (dc (.iaload, 1)) rfl put_a15)))
theorem m35_32 : M35 32 ls (.int z :: st) H Q = Q (some (.int z)) H := w_iret (dc (.ireturn, 1)) rfl
theorem pf36_274 : pfR tables_1 y36.cls y36.name 274 = some ("MacroAssembler", 80, .int) := by decide +kernel
theorem m36_0 : M36 0 [.val (.ref b), l1, l2, l3, l4, l5, l6, l7] st (put b e s A L B g) Q = M36 5 [.val (.ref b), l1, l2, l3, l4, l5, l6, l7] st (put b e (ou s 46 0) A L B g) Q := (w_x (dc (.aload_n 0, 1)) rfl).trans ((w_ki 0 (dc (.iconst 0, 1)) rfl).trans (w_put (dc (.putfield 274, 3)) pf36_274 put_o (Nat.zero_le _) (by show 80 < 90; omega) rfl put_s46))
theorem m36_5 : M36 5 [.val (.ref r), l1, l2, l3, l4, l5, l6, l7] st H Q = M36 6 [.val (.ref r), l1, l2, l3, l4, l5, l6, l7] (.ref r :: st) H Q := w_x (dc (.aload_n 0, 1)) rfl
theorem cr36_375 : vR tables_1 dn y36 375 = some (true, y37, prog_1_method_44_code, 2, (some .int), 0, 30) := pR_of (cR_of (by decide +kernel) rc_37 dn_37 dn_36 (sig := ⟨[], some .int⟩) (by decide +kernel) (by decide +kernel) rfl rfl) (by decide +kernel) (by decide +kernel)
theorem m36_6 : M36 6 ls [.ref b] (put b e s A L B g) Q = M37 0 [.val (.ref b), .unset] [] (put b e s A L B g) (fun v H1 => M36 9 ls (v.toList ++ []) H1 Q) := w_virt (as := []) (rest := []) (a := b) (dc (.invokevirtual 375, 3)) cr36_375 put_o rfl rfl (Nat.le_of_ble_eq_true rfl) (by show 1 ≤ 2; omega) rfl
theorem m36_9u : M36 9 [l0, l1, .unset, l3, l4, l5, l6, l7] ((.int v) :: st) H Q = M36 10 [l0, l1, .val (.int v), l3, l4, l5, l6, l7] st H Q := w_st (i := 2) (p := isI) (dc (.istore_n 2, 1)) rfl rfl rfl rfl rfl rfl
theorem m36_10 : M36 10 [l0, l1, .val (.int v2), l3, l4, l5, l6, l7] st H Q = if v2 < 0 then M36 14 [l0, l1, .val (.int v2), l3, l4, l5, l6, l7] st H Q else M36 19 [l0, l1, .val (.int v2), l3, l4, l5, l6, l7] st H Q := (w_x (dc (.iload_n 2, 1)) rfl).trans (w_ifN (dc (.ifCond .ge 8, 3)) (z_ge v2) rfl)
theorem m36_19 : M36 19 [.val (.ref b), .val (.int v1), l2, l3, l4, l5, l6, l7] st (put b e s A L B g) Q = (inB v1 (A 1) ∧ M36 25 [.val (.ref b), .val (.int v1), l2, l3, l4, l5, l6, l7] (.int (getA (A 1) v1) :: st) (put b e s A L B g) Q) := (w_x (dc (.aload_n 0, 1)) rfl).trans ((w_get (dc (.getfield 77, 3)) gf_77 put_o rfl).trans ((w_x (dc (.iload_n 1, 1)) rfl).trans (w_ild (dc (.iaload, 1)) rfl put_a1)))
theorem m36_25u : M36 25 [l0, l1, l2, .unset, l4, l5, l6, l7] ((.int v) :: st) H Q = M36 26 [l0, l1, l2, .val (.int v), l4, l5, l6, l7] st H Q := w_st (i := 3) (p := isI) (dc (.istore_n 3, 1)) rfl rfl rfl rfl rfl rfl
theorem m36_26 : M36 26 [.val (.ref b), .val (.int v1), l2, l3, l4, l5, l6, l7] st (put b e s A L B g) Q = (inB v1 (A 2) ∧ M36 32 [.val (.ref b), .val (.int v1), l2, l3, l4, l5, l6, l7] (.int (getA (A 2) v1) :: st) (put b e s A L B g) Q) := (w_x (dc (.aload_n 0, 1)) rfl).trans ((w_get (dc (.getfield 81, 3)) gf_81 put_o rfl).trans ((w_x (dc (.iload_n 1, 1)) rfl).trans (w_ild (dc (.iaload, 1)) rfl put_a2)))
theorem m36_32u : M36 32 [l0, l1, l2, l3, .unset, l5, l6, l7] ((.int v) :: st) H Q = M36 34 [l0, l1, l2, l3, .val (.int v), l5, l6, l7] st H Q := w_st (i := 4) (p := isI) (dc (.istore 4, 2)) rfl rfl rfl rfl rfl rfl
theorem m36_34 : M36 34 [l0, l1, l2, l3, l4, .unset, l6, l7] st H Q = M36 37 [l0, l1, l2, l3, l4, .val (.int 0), l6, l7] st H Q := (w_ki 0 (dc (.iconst 0, 1)) rfl).trans (w_st (i := 5) (p := isI) (dc (.istore 5, 2)) rfl rfl rfl rfl rfl rfl)
theorem m36_37 : M36 37 [l0, l1, l2, l3, l4, .val (.int v5), l6, l7] st H Q = if v5 < 641 then M36 45 [l0, l1, l2, l3, l4, .val (.int v5), l6, l7] st H Q else M36 175 [l0, l1, l2, l3, l4, .val (.int v5), l6, l7] st H Q := (w_x (dc (.iload 5, 2)) rfl).trans ((w_ki 641 (dc (.sipush 641, 3)) rfl).trans (w_icmpN (dc (.if_icmp .ge 133, 3)) (i_ge v5 641) rfl))
theorem m36_45 : M36 45 [l0, l1, l2, .val (.int v3), .val (.int v4), l5, l6, l7] st H Q = if v3 < v4 then M36 51 [l0, l1, l2, .val (.int v3), .val (.int v4), l5, l6, l7] st H Q else M36 175 [l0, l1, l2, .val (.int v3), .val (.int v4), l5, l6, l7] st H Q := (w_x (dc (.iload_n 3, 1)) rfl).trans ((w_x (dc (.iload 4, 2)) rfl).trans (w_icmpN (dc (.if_icmp .ge 127, 3)) (i_ge v3 v4) rfl))
theorem m36_51 : M36 51 [.val (.ref b), l1, l2, l3, l4, l5, l6, l7] st (put b e s A L B g) Q = if (s 44) = 0 then M36 58 [.val (.ref b), l1, l2, l3, l4, l5, l6, l7] st (put b e s A L B g) Q else M36 175 [.val (.ref b), l1, l2, l3, l4, l5, l6, l7] st (put b e s A L B g) Q := (w_x (dc (.aload_n 0, 1)) rfl).trans ((w_get (dc (.getfield 199, 3)) gf_199 put_o rfl).trans (w_ifN (dc (.ifCond .ne 120, 3)) (z_ne (s 44)) rfl))
theorem m36_58 : M36 58 [.val (.ref b), l1, l2, .val (.int v3), l4, l5, l6, l7] st (put b e s A L B g) Q = (inB v3 (A 0) ∧ M36 64 [.val (.ref b), l1, l2, .val (.int v3), l4, l5, l6, l7] (.int (getA (A 0) v3) :: st) (put b e s A L B g) Q) := (w_x (dc (.aload_n 0, 1)) rfl).trans ((w_get (dc (.getfield 73, 3)) gf_73 put_o rfl).trans ((w_x (dc (.iload_n 3, 1)) rfl).trans (w_ild (dc (.caload, 1)) rfl put_a0)))
theorem m36_64u : M36 64 [l0, l1, l2, l3, l4, l5, .unset, l7] ((.int v) :: st) H Q = M36 66 [l0, l1, l2, l3, l4, l5, .val (.int v), l7] st H Q := w_st (i := 6) (p := isI) (dc (.istore 6, 2)) rfl rfl rfl rfl rfl rfl
theorem m36_64i : M36 64 [l0, l1, l2, l3, l4, l5, .val (.int z), l7] ((.int v) :: st) H Q = M36 66 [l0, l1, l2, l3, l4, l5, .val (.int v), l7] st H Q := w_st (i := 6) (p := isI) (dc (.istore 6, 2)) rfl rfl rfl rfl rfl rfl
theorem m36_66 : M36 66 [l0, l1, l2, .val (.int v3), .val (.int v4), l5, l6, l7] st H Q = if (v3 + 1) < v4 then M36 74 [l0, l1, l2, .val (.int v3), .val (.int v4), l5, l6, l7] st H Q else M36 85 [l0, l1, l2, .val (.int v3), .val (.int v4), l5, l6, l7] st H Q := (w_x (dc (.iload_n 3, 1)) rfl).trans ((w_ki 1 (dc (.iconst 1, 1)) rfl).trans ((w_x (dc (.iadd, 1)) rfl).trans ((w_x (dc (.iload 4, 2)) rfl).trans (w_icmpN (dc (.if_icmp .ge 14, 3)) (i_ge (v3 + 1) v4) rfl))))
theorem m36_74 : M36 74 [.val (.ref b), l1, l2, .val (.int v3), l4, l5, l6, l7] st (put b e s A L B g) Q = (inB (v3 + 1) (A 0) ∧ M36 82 [.val (.ref b), l1, l2, .val (.int v3), l4, l5, l6, l7] (.int (getA (A 0) (v3 + 1)) :: st) (put b e s A L B g) Q) := (w_x (dc (.aload_n 0, 1)) rfl).trans ((w_get (dc (.getfield 73, 3)) gf_73 put_o rfl).trans ((w_x (dc (.iload_n 3, 1)) rfl).trans ((w_ki 1 (dc (.iconst 1, 1)) rfl).trans ((w_x (dc (.iadd, 1)) rfl).trans (w_ild (dc (.caload, 1)) rfl put_a0)))))
theorem m36_82 : M36 82 ls st H Q = M36 86 ls st H Q := w_x (dc (.goto 4, 3)) rfl
theorem m36_86u : M36 86 [l0, l1, l2, l3, l4, l5, l6, .unset] ((.int v) :: st) H Q = M36 88 [l0, l1, l2, l3, l4, l5, l6, .val (.int v)] st H Q := w_st (i := 7) (p := isI) (dc (.istore 7, 2)) rfl rfl rfl rfl rfl rfl
theorem m36_86i : M36 86 [l0, l1, l2, l3, l4, l5, l6, .val (.int z)] ((.int v) :: st) H Q = M36 88 [l0, l1, l2, l3, l4, l5, l6, .val (.int v)] st H Q := w_st (i := 7) (p := isI) (dc (.istore 7, 2)) rfl rfl rfl rfl rfl rfl
theorem m36_88 : M36 88 [l0, l1, l2, l3, l4, l5, .val (.int v6), l7] st H Q = if v6 = 92 then M36 95 [l0, l1, l2, l3, l4, l5, .val (.int v6), l7] st H Q else M36 125 [l0, l1, l2, l3, l4, l5, .val (.int v6), l7] st H Q := (w_x (dc (.iload 6, 2)) rfl).trans ((w_ki 92 (dc (.bipush 92, 2)) rfl).trans (w_icmpN (dc (.if_icmp .ne 33, 3)) (i_ne v6 92) rfl))
theorem m36_95 : M36 95 [l0, l1, l2, l3, l4, l5, l6, .val (.int v7)] st H Q = if v7 < 49 then M36 125 [l0, l1, l2, l3, l4, l5, l6, .val (.int v7)] st H Q else M36 102 [l0, l1, l2, l3, l4, l5, l6, .val (.int v7)] st H Q := (w_x (dc (.iload 7, 2)) rfl).trans ((w_ki 49 (dc (.bipush 49, 2)) rfl).trans (w_icmp (dc (.if_icmp .lt 26, 3)) (i_lt v7 49) rfl))
theorem m36_102 : M36 102 [l0, l1, l2, l3, l4, l5, l6, .val (.int v7)] st H Q = if 52 < v7 then M36 125 [l0, l1, l2, l3, l4, l5, l6, .val (.int v7)] st H Q else M36 109 [l0, l1, l2, l3, l4, l5, l6, .val (.int v7)] st H Q := (w_x (dc (.iload 7, 2)) rfl).trans ((w_ki 52 (dc (.bipush 52, 2)) rfl).trans (w_icmp (dc (.if_icmp .gt 19, 3)) (i_gt v7 52) rfl))
theorem m36_109 : M36 109 [.val (.ref b), l1, .val (.int v2), l3, l4, l5, l6, .val (.int v7)] st H Q = M36 116 [.val (.ref b), l1, .val (.int v2), l3, l4, l5, l6, .val (.int v7)] (.int (v7 - 49) :: .int v2 :: .ref b :: st) H Q := (w_x (dc (.aload_n 0, 1)) rfl).trans ((w_x (dc (.iload_n 2, 1)) rfl).trans ((w_x (dc (.iload 7, 2)) rfl).trans ((w_ki 49 (dc (.bipush 49, 2)) rfl).trans (w_x (dc (.isub, 1)) rfl))))
theorem cr36_378 : vR tables_1 dn y36 378 = some (true, y41, prog_1_method_48_code, 5, none, 2, 14) := pR_of (cR_of (by decide +kernel) rc_41 dn_41 dn_36 (sig := ⟨[.int, .int], none⟩) (by decide +kernel) (by decide +kernel) rfl rfl) (by decide +kernel) (by decide +kernel)
theorem m36_116 (a0 : Int32) (a1 : Int32) : M36 116 ls [.int a1, .int a0, .ref b] (put b e s A L B g) Q = M41 0 [.val (.ref b), .val (.int a0), .val (.int a1), .unset, .unset] [] (put b e s A L B g) (fun v H1 => M36 119 ls (v.toList ++ []) H1 Q) := w_virt (as := [.int a1, .int a0]) (rest := []) (a := b) (dc (.invokevirtual 378, 3)) cr36_378 put_o rfl rfl (Nat.le_of_ble_eq_true rfl) (by show 3 ≤ 5; omega) rfl
theorem m36_119 : M36 119 [l0, l1, l2, .val (.int v3), l4, l5, l6, l7] st H Q = M36 169 [l0, l1, l2, .val (.int (v3 + 2)), l4, l5, l6, l7] st H Q := (w_iinc (dc (.iinc 3 2, 3)) rfl (by decide) rfl).trans (w_x (dc (.goto 47, 3)) rfl)
theorem m36_125 : M36 125 [l0, l1, l2, l3, l4, l5, .val (.int v6), l7] st H Q = if v6 = 37 then M36 132 [l0, l1, l2, l3, l4, l5, .val (.int v6), l7] st H Q else M36 160 [l0, l1, l2, l3, l4, l5, .val (.int v6), l7] st H Q := (w_x (dc (.iload 6, 2)) rfl).trans ((w_ki 37 (dc (.bipush 37, 2)) rfl).trans (w_icmpN (dc (.if_icmp .ne 31, 3)) (i_ne v6 37) rfl))
theorem m36_132 : M36 132 [.val (.ref b), l1, l2, l3, l4, l5, l6, .val (.int v7)] st H Q = M36 135 [.val (.ref b), l1, l2, l3, l4, l5, l6, .val (.int v7)] (.int v7 :: .ref b :: st) H Q := (w_x (dc (.aload_n 0, 1)) rfl).trans (w_x (dc (.iload 7, 2)) rfl)
theorem cr36_268 : vR tables_1 dn y36 268 = some (true, y14, prog_1_method_23_code, 2, (some .boolean), 1, 30) := pR_of (cR_of (by decide +kernel) rc_14 dn_14 dn_36 (sig := ⟨[.int], some .boolean⟩) (by decide +kernel) (by decide +kernel) rfl rfl) (by decide +kernel) (by decide +kernel)
theorem m36_135 (a0 : Int32) : M36 135 ls [.int a0, .ref b] (put b e s A L B g) Q = M14 0 [.val (.ref b), .val (.int a0)] [] (put b e s A L B g) (fun v H1 => M36 138 ls (v.toList ++ []) H1 Q) := w_virt (as := [.int a0]) (rest := []) (a := b) (dc (.invokevirtual 268, 3)) cr36_268 put_o rfl rfl (Nat.le_of_ble_eq_true rfl) (by show 2 ≤ 2; omega) rfl
theorem m36_138 : M36 138 ls (.int x :: st) H Q = if x = 0 then M36 160 ls st H Q else M36 141 ls st H Q := w_if (dc (.ifCond .eq 22, 3)) (z_eq x) rfl
theorem m36_141 : M36 141 [.val (.ref b), l1, .val (.int v2), .val (.int v3), .val (.int v4), l5, l6, l7] st (put b e s A L B g) Q = (inB v2 (A 14) ∧ M36 153 [.val (.ref b), l1, .val (.int v2), .val (.int v3), .val (.int v4), l5, l6, l7] (.int (getA (A 14) v2) :: .int v4 :: .int (v3 + 1) :: .ref b :: st) (put b e s A L B g) Q) := (w_x (dc (.aload_n 0, 1)) rfl).trans ((w_x (dc (.iload_n 3, 1)) rfl).trans ((w_ki 1 (dc (.iconst 1, 1)) rfl).trans ((w_x (dc (.iadd, 1)) rfl).trans ((w_x (dc (.iload 4, 2)) rfl).trans ((w_x (dc (.aload_n 0, 1)) rfl).trans ((w_get (dc (.getfield 125, 3)) gf_125 put_o rfl).trans ((w_x (dc (.iload_n 2, 1)) rfl).trans (w_ild (dc (.iaload, 1)) rfl put_a14))))))))
theorem cr36_381 : vR tables_1 dn y36 381 = some (true, y38, prog_1_method_49_code, 6, (some .int), 3, 0) := pR_of (cR_of (by decide +kernel) rc_38 dn_38 dn_36 (sig := ⟨[.int, .int, .int], some .int⟩) (by decide +kernel) (by decide +kernel) rfl rfl) (by decide +kernel) (by decide +kernel)
theorem m36_153 (a0 : Int32) (a1 : Int32) (a2 : Int32) : M36 153 ls [.int a2, .int a1, .int a0, .ref b] (put b e s A L B g) Q = M38 0 [.val (.ref b), .val (.int a0), .val (.int a1), .val (.int a2), .unset, .unset] [] (put b e s A L B g) (fun v H1 => M36 156 ls (v.toList ++ []) H1 Q) := w_virt (as := [.int a2, .int a1, .int a0]) (rest := []) (a := b) (dc (.invokevirtual 381, 3)) cr36_381 put_o rfl rfl (Nat.le_of_ble_eq_true rfl) (by show 4 ≤ 6; omega) rfl
theorem m36_156i : M36 156 [l0, l1, l2, .val (.int z), l4, l5, l6, l7] ((.int v) :: st) H Q = M36 157 [l0, l1, l2, .val (.int v), l4, l5, l6, l7] st H Q := w_st (i := 3) (p := isI) (dc (.istore_n 3, 1)) rfl rfl rfl rfl rfl rfl
theorem m36_157 : M36 157 ls st H Q = M36 169 ls st H Q := w_x (dc (.goto 12, 3)) rfl
theorem m36_160 : M36 160 [.val (.ref b), l1, l2, l3, l4, l5, .val (.int v6), l7] st H Q = M36 163 [.val (.ref b), l1, l2, l3, l4, l5, .val (.int v6), l7] (.int v6 :: .ref b :: st) H Q := (w_x (dc (.aload_n 0, 1)) rfl).trans (w_x (dc (.iload 6, 2)) rfl)
theorem cr36_385 : vR tables_1 dn y36 385 = some (true, y39, prog_1_method_47_code, 2, none, 1, 30) := pR_of (cR_of (by decide +kernel) rc_39 dn_39 dn_36 (sig := ⟨[.int], none⟩) (by decide +kernel) (by decide +kernel) rfl rfl) (by decide +kernel) (by decide +kernel)
theorem m36_163 (a0 : Int32) : M36 163 ls [.int a0, .ref b] (put b e s A L B g) Q = M39 0 [.val (.ref b), .val (.int a0)] [] (put b e s A L B g) (fun v H1 => M36 166 ls (v.toList ++ []) H1 Q) := w_virt (as := [.int a0]) (rest := []) (a := b) (dc (.invokevirtual 385, 3)) cr36_385 put_o rfl rfl (Nat.le_of_ble_eq_true rfl) (by show 2 ≤ 2; omega) rfl
theorem m36_166 : M36 166 [l0, l1, l2, .val (.int v), l4, l5, l6, l7] st H Q = M36 169 [l0, l1, l2, .val (.int (v + 1)), l4, l5, l6, l7] st H Q := w_iinc (dc (.iinc 3 1, 3)) rfl (by decide) rfl
theorem m36_169 : M36 169 [l0, l1, l2, l3, l4, .val (.int v5), l6, l7] st H Q = M36 37 [l0, l1, l2, l3, l4, .val (.int (v5 + 1)), l6, l7] st H Q := (w_iinc (dc (.iinc 5 1, 3)) rfl (by decide) rfl).trans (w_x (dc (.goto (-135), 3)) rfl)
theorem m36_175 : M36 175 ls [] H Q = Q none H := w_vret (dc (.return_, 1)) rfl
theorem m37_0 : M37 0 [.val (.ref b), .unset] st (put b e s A L B g) Q = M37 7 [.val (.ref b), .val (.int ((s 33) - 1))] st (put b e s A L B g) Q := (w_x (dc (.aload_n 0, 1)) rfl).trans ((w_get (dc (.getfield 316, 3)) gf_316 put_o rfl).trans ((w_ki 1 (dc (.iconst 1, 1)) rfl).trans ((w_x (dc (.isub, 1)) rfl).trans (w_st (i := 1) (p := isI) (dc (.istore_n 1, 1)) rfl rfl rfl rfl rfl rfl))))
theorem m37_7 : M37 7 [l0, .val (.int v1)] st H Q = if v1 < 0 then M37 35 [l0, .val (.int v1)] st H Q else M37 11 [l0, .val (.int v1)] st H Q := (w_x (dc (.iload_n 1, 1)) rfl).trans (w_if (dc (.ifCond .lt 27, 3)) (z_lt v1) rfl)
theorem m37_11 : M37 11 [l0, .val (.int v1)] st H Q = if v1 < 8 then M37 17 [l0, .val (.int v1)] st H Q else M37 29 [l0, .val (.int v1)] st H Q := (w_x (dc (.iload_n 1, 1)) rfl).trans ((w_ki 8 (dc (.bipush 8, 2)) rfl).trans (w_icmpN (dc (.if_icmp .ge 15, 3)) (i_ge v1 8) rfl))
theorem m37_17 : M37 17 [.val (.ref b), .val (.int v1)] st (put b e s A L B g) Q = (inB v1 (A 9) ∧ M37 23 [.val (.ref b), .val (.int v1)] (.int (getA (A 9) v1) :: st) (put b e s A L B g) Q) := (w_x (dc (.aload_n 0, 1)) rfl).trans ((w_get (dc (.getfield 109, 3)) gf_109 put_o rfl).trans ((w_x (dc (.iload_n 1, 1)) rfl).trans (w_ild (dc (.iaload, 1)) rfl put_a9)))
theorem m37_23 : M37 23 ls st H Q = M37 24 ls (.int 3 :: st) H Q := w_con (dc (.iconst 3, 1)) rfl (by decide)
theorem m37_24 : M37 24 ls (.int y :: .int x :: st) H Q = if x = y then M37 27 ls st H Q else M37 29 ls st H Q := w_icmpN (dc (.if_icmp .ne 5, 3)) (i_ne x y) rfl
theorem m37_27 : M37 27 [l0, .val (.int v)] st H Q = M37 28 [l0, .val (.int v)] (.int v :: st) H Q := w_x (dc (.iload_n 1, 1)) rfl
theorem m37_28 : M37 28 ls (.int z :: st) H Q = Q (some (.int z)) H := w_iret (dc (.ireturn, 1)) rfl
theorem m38_0 : M38 0 [l0, .val (.int v1), l2, l3, .unset, .unset] st H Q = M38 6 [l0, .val (.int v1), l2, l3, .val (.int v1), .val (.int 0)] st H Q := (w_x (dc (.iload_n 1, 1)) rfl).trans ((w_st (i := 4) (p := isI) (dc (.istore 4, 2)) rfl rfl rfl rfl rfl rfl).trans ((w_ki 0 (dc (.iconst 0, 1)) rfl).trans (w_st (i := 5) (p := isI) (dc (.istore 5, 2)) rfl rfl rfl rfl rfl rfl)))
theorem m38_6 : M38 6 [l0, l1, l2, l3, l4, .val (.int v5)] st H Q = if v5 < 641 then M38 14 [l0, l1, l2, l3, l4, .val (.int v5)] st H Q else M38 54 [l0, l1, l2, l3, l4, .val (.int v5)] st H Q := (w_x (dc (.iload 5, 2)) rfl).trans ((w_ki 641 (dc (.sipush 641, 3)) rfl).trans (w_icmpN (dc (.if_icmp .ge 43, 3)) (i_ge v5 641) rfl))
theorem m38_14 : M38 14 [l0, l1, .val (.int v2), l3, .val (.int v4), l5] st H Q = if v4 < v2 then M38 20 [l0, l1, .val (.int v2), l3, .val (.int v4), l5] st H Q else M38 54 [l0, l1, .val (.int v2), l3, .val (.int v4), l5] st H Q := (w_x (dc (.iload 4, 2)) rfl).trans ((w_x (dc (.iload_n 2, 1)) rfl).trans (w_icmpN (dc (.if_icmp .ge 37, 3)) (i_ge v4 v2) rfl))
theorem m38_20 : M38 20 [.val (.ref b), l1, l2, l3, .val (.int v4), l5] st (put b e s A L B g) Q = (inB v4 (A 0) ∧ M38 28 [.val (.ref b), l1, l2, l3, .val (.int v4), l5] (.int (getA (A 0) v4) :: .ref b :: st) (put b e s A L B g) Q) := (w_x (dc (.aload_n 0, 1)) rfl).trans ((w_x (dc (.aload_n 0, 1)) rfl).trans ((w_get (dc (.getfield 73, 3)) gf_73 put_o rfl).trans ((w_x (dc (.iload 4, 2)) rfl).trans (w_ild (dc (.caload, 1)) rfl put_a0))))
theorem cr38_277 : vR tables_1 dn y38 277 = some (true, y16, prog_1_method_24_code, 2, (some .boolean), 1, 0) := pR_of (cR_of (by decide +kernel) rc_16 dn_16 dn_38 (sig := ⟨[.int], some .boolean⟩) (by decide +kernel) (by decide +kernel) rfl rfl) (by decide +kernel) (by decide +kernel)
theorem m38_28 (a0 : Int32) : M38 28 ls [.int a0, .ref b] (put b e s A L B g) Q = M16 0 [.val (.ref b), .val (.int a0)] [] (put b e s A L B g) (fun v H1 => M38 31 ls (v.toList ++ []) H1 Q) := w_virt (as := [.int a0]) (rest := []) (a := b) (dc (.invokevirtual 277, 3)) cr38_277 put_o rfl rfl (Nat.le_of_ble_eq_true rfl) (by show 2 ≤ 2; omega) rfl
theorem m38_31 : M38 31 ls (.int x :: st) H Q = if x = 0 then M38 54 ls st H Q else M38 34 ls st H Q := w_if (dc (.ifCond .eq 23, 3)) (z_eq x) rfl
theorem m38_34 : M38 34 [.val (.ref b), l1, l2, l3, .val (.int v4), l5] st (put b e s A L B g) Q = (inB v4 (A 0) ∧ M38 42 [.val (.ref b), l1, l2, l3, .val (.int v4), l5] (.int (getA (A 0) v4) :: .ref b :: st) (put b e s A L B g) Q) := (w_x (dc (.aload_n 0, 1)) rfl).trans ((w_x (dc (.aload_n 0, 1)) rfl).trans ((w_get (dc (.getfield 73, 3)) gf_73 put_o rfl).trans ((w_x (dc (.iload 4, 2)) rfl).trans (w_ild (dc (.caload, 1)) rfl put_a0))))
theorem cr38_385 : vR tables_1 dn y38 385 = some (true, y39, prog_1_method_47_code, 2, none, 1, 13) := pR_of (cR_of (by decide +kernel) rc_39 dn_39 dn_38 (sig := ⟨[.int], none⟩) (by decide +kernel) (by decide +kernel) rfl rfl) (by decide +kernel) (by decide +kernel)
theorem m38_42 (a0 : Int32) : M38 42 ls [.int a0, .ref b] (put b e s A L B g) Q = M39 0 [.val (.ref b), .val (.int a0)] [] (put b e s A L B g) (fun v H1 => M38 45 ls (v.toList ++ []) H1 Q) := w_virt (as := [.int a0]) (rest := []) (a := b) (dc (.invokevirtual 385, 3)) cr38_385 put_o rfl rfl (Nat.le_of_ble_eq_true rfl) (by show 2 ≤ 2; omega) rfl
theorem m38_45 : M38 45 [l0, l1, l2, l3, .val (.int v4), .val (.int v5)] st H Q = M38 6 [l0, l1, l2, l3, .val (.int (v4 + 1)), .val (.int (v5 + 1))] st H Q := (w_iinc (dc (.iinc 4 1, 3)) rfl (by decide) rfl).trans ((w_iinc (dc (.iinc 5 1, 3)) rfl (by decide) rfl).trans (w_x (dc (.goto (-45), 3)) rfl))
theorem m38_54 : M38 54 [.val (.ref b), l1, l2, l3, l4, l5] st H Q = M38 57 [.val (.ref b), l1, l2, l3, l4, l5] (.int 95 :: .ref b :: st) H Q := (w_x (dc (.aload_n 0, 1)) rfl).trans (w_ki 95 (dc (.bipush 95, 2)) rfl)
theorem m38_57 (a0 : Int32) : M38 57 ls [.int a0, .ref b] (put b e s A L B g) Q = M39 0 [.val (.ref b), .val (.int a0)] [] (put b e s A L B g) (fun v H1 => M38 60 ls (v.toList ++ []) H1 Q) := w_virt (as := [.int a0]) (rest := []) (a := b) (dc (.invokevirtual 385, 3)) cr38_385 put_o rfl rfl (Nat.le_of_ble_eq_true rfl) (by show 2 ≤ 2; omega) rfl
theorem m38_60 : M38 60 [.val (.ref b), l1, l2, .val (.int v3), l4, l5] st H Q = M38 62 [.val (.ref b), l1, l2, .val (.int v3), l4, l5] (.int v3 :: .ref b :: st) H Q := (w_x (dc (.aload_n 0, 1)) rfl).trans (w_x (dc (.iload_n 3, 1)) rfl)
theorem cr38_388 : vR tables_1 dn y38 388 = some (true, y40, prog_1_method_37_code, 5, none, 1, 10) := pR_of (cR_of (by decide +kernel) rc_40 dn_40 dn_38 (sig := ⟨[.int], none⟩) (by decide +kernel) (by decide +kernel) rfl rfl) (by decide +kernel) (by decide +kernel)
theorem m38_62 (a0 : Int32) : M38 62 ls [.int a0, .ref b] (put b e s A L B g) Q = M40 0 [.val (.ref b), .val (.int a0), .unset, .unset, .unset] [] (put b e s A L B g) (fun v H1 => M38 65 ls (v.toList ++ []) H1 Q) := w_virt (as := [.int a0]) (rest := []) (a := b) (dc (.invokevirtual 388, 3)) cr38_388 put_o rfl rfl (Nat.le_of_ble_eq_true rfl) (by show 2 ≤ 5; omega) rfl
theorem m38_65 : M38 65 [.val (.ref b), l1, l2, l3, l4, .val (.int z)] st (put b e s A L B g) Q = M38 71 [.val (.ref b), l1, l2, l3, l4, .val (.int (s 30))] st (put b e s A L B g) Q := (w_x (dc (.aload_n 0, 1)) rfl).trans ((w_get (dc (.getfield 313, 3)) gf_313 put_o rfl).trans (w_st (i := 5) (p := isI) (dc (.istore 5, 2)) rfl rfl rfl rfl rfl rfl))
theorem m38_71 : M38 71 [l0, l1, l2, l3, l4, .val (.int v5)] st H Q = if v5 < 12 then M38 78 [l0, l1, l2, l3, l4, .val (.int v5)] st H Q else M38 95 [l0, l1, l2, l3, l4, .val (.int v5)] st H Q := (w_x (dc (.iload 5, 2)) rfl).trans ((w_ki 12 (dc (.bipush 12, 2)) rfl).trans (w_icmpN (dc (.if_icmp .ge 20, 3)) (i_ge v5 12) rfl))
theorem m38_78 : M38 78 [.val (.ref b), l1, l2, l3, l4, .val (.int v5)] st (put b e s A L B g) Q = (inB v5 (A 6) ∧ M38 86 [.val (.ref b), l1, l2, l3, l4, .val (.int v5)] (.int (getA (A 6) v5) :: .ref b :: st) (put b e s A L B g) Q) := (w_x (dc (.aload_n 0, 1)) rfl).trans ((w_x (dc (.aload_n 0, 1)) rfl).trans ((w_get (dc (.getfield 97, 3)) gf_97 put_o rfl).trans ((w_x (dc (.iload 5, 2)) rfl).trans (w_ild (dc (.caload, 1)) rfl put_a6))))
theorem m38_86 (a0 : Int32) : M38 86 ls [.int a0, .ref b] (put b e s A L B g) Q = M39 0 [.val (.ref b), .val (.int a0)] [] (put b e s A L B g) (fun v H1 => M38 89 ls (v.toList ++ []) H1 Q) := w_virt (as := [.int a0]) (rest := []) (a := b) (dc (.invokevirtual 385, 3)) cr38_385 put_o rfl rfl (Nat.le_of_ble_eq_true rfl) (by show 2 ≤ 2; omega) rfl
theorem m38_89 : M38 89 [l0, l1, l2, l3, l4, .val (.int v5)] st H Q = M38 71 [l0, l1, l2, l3, l4, .val (.int (v5 + 1))] st H Q := (w_iinc (dc (.iinc 5 1, 3)) rfl (by decide) rfl).trans (w_x (dc (.goto (-21), 3)) rfl)
theorem m38_95 : M38 95 [l0, l1, l2, l3, .val (.int v), l5] st H Q = M38 97 [l0, l1, l2, l3, .val (.int v), l5] (.int v :: st) H Q := w_x (dc (.iload 4, 2)) rfl
theorem m38_97 : M38 97 ls (.int z :: st) H Q = Q (some (.int z)) H := w_iret (dc (.ireturn, 1)) rfl
theorem m39_0 : M39 0 [.val (.ref b), l1] st (put b e s A L B g) Q = if (s 46) < 80 then M39 14 [.val (.ref b), l1] st (put b e s A L B g) Q else M39 9 [.val (.ref b), l1] st (put b e s A L B g) Q := (w_x (dc (.aload_n 0, 1)) rfl).trans ((w_get (dc (.getfield 274, 3)) gf_274 put_o rfl).trans ((w_ki 80 (dc (.bipush 80, 2)) rfl).trans (w_icmp (dc (.if_icmp .lt 8, 3)) (i_lt (s 46) 80) rfl)))
theorem m39_14 : M39 14 [.val (.ref b), .val (.int v1)] st (put b e s A L B g) Q = (inB (s 46) (A 19) ∧ M39 25 [.val (.ref b), .val (.int v1)] st (put b e s (ou A 19 (setA (A 19) (s 46) (nar .char (v1.toUInt32.toUInt16.toUInt32.toInt32)))) L B g) Q) := (w_x (dc (.aload_n 0, 1)) rfl).trans ((w_get (dc (.getfield 140, 3)) gf_140 put_o rfl).trans ((w_x (dc (.aload_n 0, 1)) rfl).trans ((w_get (dc (.getfield 274, 3)) gf_274 put_o rfl).trans ((w_x (dc (.iload_n 1, 1)) rfl).trans ((w_x (dc (.i2c, 1)) rfl).trans (w_ist (dc (.castore, 1)) rfl put_a19 (Nat.zero_le _) rfl put_w19))))))
theorem pf39_274 : pfR tables_1 y39.cls y39.name 274 = some ("MacroAssembler", 80, .int) := by decide +kernel
theorem m39_25 : M39 25 [.val (.ref b), l1] st (put b e s A L B g) Q = M39 35 [.val (.ref b), l1] st (put b e (ou s 46 (((s 46) + 1))) A L B g) Q := (w_x (dc (.aload_n 0, 1)) rfl).trans ((w_x (dc (.dup, 1)) rfl).trans ((w_get (dc (.getfield 274, 3)) gf_274 put_o rfl).trans ((w_ki 1 (dc (.iconst 1, 1)) rfl).trans ((w_x (dc (.iadd, 1)) rfl).trans (w_put (dc (.putfield 274, 3)) pf39_274 put_o (Nat.zero_le _) (by show 80 < 90; omega) rfl put_s46)))))
theorem m39_35 : M39 35 ls [] H Q = Q none H := w_vret (dc (.return_, 1)) rfl
theorem m40_0 : M40 0 [l0, .val (.int v1), l2, l3, l4] st H Q = if v1 < 0 then M40 4 [l0, .val (.int v1), l2, l3, l4] st H Q else M40 8 [l0, .val (.int v1), l2, l3, l4] st H Q := (w_x (dc (.iload_n 1, 1)) rfl).trans (w_ifN (dc (.ifCond .ge 7, 3)) (z_ge v1) rfl)
theorem m40_8 : M40 8 [l0, .val (.int v), l2, l3, l4] st H Q = M40 9 [l0, .val (.int v), l2, l3, l4] (.int v :: st) H Q := w_x (dc (.iload_n 1, 1)) rfl
theorem m40_9 : M40 9 ls (.int x :: st) H Q = M40 10 ls (.int (-x) :: st) H Q := w_x (dc (.ineg, 1)) rfl
theorem m40_10u : M40 10 [l0, l1, .unset, l3, l4] ((.int v) :: st) H Q = M40 11 [l0, l1, .val (.int v), l3, l4] st H Q := w_st (i := 2) (p := isI) (dc (.istore_n 2, 1)) rfl rfl rfl rfl rfl rfl
theorem m40_11 : M40 11 [l0, l1, l2, .unset, .unset] st H Q = M40 17 [l0, l1, l2, .val (.int 12), .val (.int 0)] st H Q := (w_ki 12 (dc (.bipush 12, 2)) rfl).trans ((w_st (i := 3) (p := isI) (dc (.istore_n 3, 1)) rfl rfl rfl rfl rfl rfl).trans ((w_ki 0 (dc (.iconst 0, 1)) rfl).trans (w_st (i := 4) (p := isI) (dc (.istore 4, 2)) rfl rfl rfl rfl rfl rfl)))
theorem m40_17 : M40 17 [l0, l1, l2, l3, .val (.int v4)] st H Q = if v4 < 11 then M40 24 [l0, l1, l2, l3, .val (.int v4)] st H Q else M40 59 [l0, l1, l2, l3, .val (.int v4)] st H Q := (w_x (dc (.iload 4, 2)) rfl).trans ((w_ki 11 (dc (.bipush 11, 2)) rfl).trans (w_icmpN (dc (.if_icmp .ge 38, 3)) (i_ge v4 11) rfl))
theorem m40_24 : M40 24 [.val (.ref b), l1, .val (.int v2), .val (.int v3), l4] st (put b e s A L B g) Q = M40 37 [.val (.ref b), l1, .val (.int v2), .val (.int (v3 + (-1))), l4] (.int 10 :: .int v2 :: .int 48 :: .int (v3 + (-1)) :: .ref (b + 8) :: st) (put b e s A L B g) Q := (w_iinc (dc (.iinc 3 (-1), 3)) rfl (by decide) rfl).trans ((w_x (dc (.aload_n 0, 1)) rfl).trans ((w_get (dc (.getfield 97, 3)) gf_97 put_o rfl).trans ((w_x (dc (.iload_n 3, 1)) rfl).trans ((w_ki 48 (dc (.bipush 48, 2)) rfl).trans ((w_x (dc (.iload_n 2, 1)) rfl).trans (w_ki 10 (dc (.bipush 10, 2)) rfl))))))
theorem m40_37 : M40 37 ls (.int y :: .int x :: st) H Q = (y ≠ 0 ∧ M40 38 ls (.int (x % y) :: st) H Q) := w_div (f := fun x y => x % y) (dc (.irem, 1)) (fun _ => rfl) rfl rfl
theorem m40_38 : M40 38 ls (.int y :: .int x :: st) H Q = M40 39 ls (.int (x - y) :: st) H Q := w_x (dc (.isub, 1)) rfl
theorem m40_39 : M40 39 ls (.int x :: st) H Q = M40 40 ls (.int (x.toUInt32.toUInt16.toUInt32.toInt32) :: st) H Q := w_x (dc (.i2c, 1)) rfl
theorem m40_40  : M40 40 ls (.int v :: .int j :: .ref (b + 8) :: st) (put b e s A L B g) Q = (inB j (A 6) ∧ M40 41 ls st (put b e s (ou A 6 (setA (A 6) j (nar .char v))) L B g) Q) := w_ist (dc (.castore, 1)) rfl put_a6 (Nat.zero_le _) rfl put_w6
theorem m40_41 : M40 41 [l0, l1, .val (.int v2), l3, l4] st H Q = M40 44 [l0, l1, .val (.int v2), l3, l4] (.int 10 :: .int v2 :: st) H Q := (w_x (dc (.iload_n 2, 1)) rfl).trans (w_ki 10 (dc (.bipush 10, 2)) rfl)
theorem m40_44 : M40 44 ls (.int y :: .int x :: st) H Q = (y ≠ 0 ∧ M40 45 ls (.int (x / y) :: st) H Q) := w_div (f := fun x y => x / y) (dc (.idiv, 1)) (fun _ => rfl) rfl rfl
theorem m40_45i : M40 45 [l0, l1, .val (.int z), l3, l4] ((.int v) :: st) H Q = M40 46 [l0, l1, .val (.int v), l3, l4] st H Q := w_st (i := 2) (p := isI) (dc (.istore_n 2, 1)) rfl rfl rfl rfl rfl rfl
theorem m40_46 : M40 46 [l0, l1, .val (.int v2), l3, l4] st H Q = if v2 = 0 then M40 50 [l0, l1, .val (.int v2), l3, l4] st H Q else M40 53 [l0, l1, .val (.int v2), l3, l4] st H Q := (w_x (dc (.iload_n 2, 1)) rfl).trans (w_ifN (dc (.ifCond .ne 6, 3)) (z_ne v2) rfl)
theorem m40_50 : M40 50 ls st H Q = M40 59 ls st H Q := w_x (dc (.goto 9, 3)) rfl
theorem m40_53 : M40 53 [l0, l1, l2, l3, .val (.int v4)] st H Q = M40 17 [l0, l1, l2, l3, .val (.int (v4 + 1))] st H Q := (w_iinc (dc (.iinc 4 1, 3)) rfl (by decide) rfl).trans (w_x (dc (.goto (-39), 3)) rfl)
theorem m40_59 : M40 59 [l0, .val (.int v1), l2, l3, l4] st H Q = if v1 < 0 then M40 63 [l0, .val (.int v1), l2, l3, l4] st H Q else M40 78 [l0, .val (.int v1), l2, l3, l4] st H Q := (w_x (dc (.iload_n 1, 1)) rfl).trans (w_ifN (dc (.ifCond .ge 18, 3)) (z_ge v1) rfl)
theorem pf40_313 : pfR tables_1 y40.cls y40.name 313 = some ("MacroAssembler", 84, .int) := by decide +kernel
theorem m40_78 : M40 78 [.val (.ref b), l1, l2, .val (.int v3), l4] st (put b e s A L B g) Q = M40 83 [.val (.ref b), l1, l2, .val (.int v3), l4] st (put b e (ou s 30 v3) A L B g) Q := (w_x (dc (.aload_n 0, 1)) rfl).trans ((w_x (dc (.iload_n 3, 1)) rfl).trans (w_put (dc (.putfield 313, 3)) pf40_313 put_o (Nat.zero_le _) (by show 84 < 90; omega) rfl put_s30))
theorem m40_83 : M40 83 ls [] H Q = Q none H := w_vret (dc (.return_, 1)) rfl
theorem m41_0 : M41 0 [.val (.ref b), .val (.int v1), .val (.int v2), l3, l4] st (put b e s A L B g) Q = (inB v1 (A 16) ∧ M41 7 [.val (.ref b), .val (.int v1), .val (.int v2), l3, l4] (.int (getA (A 16) v1) :: .int v2 :: st) (put b e s A L B g) Q) := (w_x (dc (.iload_n 2, 1)) rfl).trans ((w_x (dc (.aload_n 0, 1)) rfl).trans ((w_get (dc (.getfield 131, 3)) gf_131 put_o rfl).trans ((w_x (dc (.iload_n 1, 1)) rfl).trans (w_ild (dc (.iaload, 1)) rfl put_a16))))
theorem m41_7 : M41 7 ls (.int y :: .int x :: st) H Q = if x < y then M41 11 ls st H Q else M41 10 ls st H Q := w_icmp (dc (.if_icmp .lt 4, 3)) (i_lt x y) rfl
theorem m41_11 : M41 11 [l0, .val (.int v1), .val (.int v2), .unset, .unset] st H Q = M41 20 [l0, .val (.int v1), .val (.int v2), .val (.int ((v1 * 4) + v2)), .val (.int 0)] st H Q := (w_x (dc (.iload_n 1, 1)) rfl).trans ((w_ki 4 (dc (.iconst 4, 1)) rfl).trans ((w_x (dc (.imul, 1)) rfl).trans ((w_x (dc (.iload_n 2, 1)) rfl).trans ((w_x (dc (.iadd, 1)) rfl).trans ((w_st (i := 3) (p := isI) (dc (.istore_n 3, 1)) rfl rfl rfl rfl rfl rfl).trans ((w_ki 0 (dc (.iconst 0, 1)) rfl).trans (w_st (i := 4) (p := isI) (dc (.istore 4, 2)) rfl rfl rfl rfl rfl rfl)))))))
theorem m41_20 : M41 20 [.val (.ref b), l1, l2, .val (.int v3), .val (.int v4)] st (put b e s A L B g) Q = (inB v3 (A 17) ∧ M41 28 [.val (.ref b), l1, l2, .val (.int v3), .val (.int v4)] (.int (getA (A 17) v3) :: .int v4 :: st) (put b e s A L B g) Q) := (w_x (dc (.iload 4, 2)) rfl).trans ((w_x (dc (.aload_n 0, 1)) rfl).trans ((w_get (dc (.getfield 134, 3)) gf_134 put_o rfl).trans ((w_x (dc (.iload_n 3, 1)) rfl).trans (w_ild (dc (.iaload, 1)) rfl put_a17))))
theorem m41_28 : M41 28 ls (.int y :: .int x :: st) H Q = if x < y then M41 31 ls st H Q else M41 67 ls st H Q := w_icmpN (dc (.if_icmp .ge 39, 3)) (i_ge x y) rfl
theorem m41_31 : M41 31 [l0, l1, l2, l3, .val (.int v4)] st H Q = if v4 < 81 then M41 38 [l0, l1, l2, l3, .val (.int v4)] st H Q else M41 67 [l0, l1, l2, l3, .val (.int v4)] st H Q := (w_x (dc (.iload 4, 2)) rfl).trans ((w_ki 81 (dc (.bipush 81, 2)) rfl).trans (w_icmpN (dc (.if_icmp .ge 32, 3)) (i_ge v4 81) rfl))
theorem m41_38 : M41 38 [.val (.ref b), l1, l2, l3, l4] st (put b e s A L B g) Q = if (s 44) = 0 then M41 45 [.val (.ref b), l1, l2, l3, l4] st (put b e s A L B g) Q else M41 67 [.val (.ref b), l1, l2, l3, l4] st (put b e s A L B g) Q := (w_x (dc (.aload_n 0, 1)) rfl).trans ((w_get (dc (.getfield 199, 3)) gf_199 put_o rfl).trans (w_ifN (dc (.ifCond .ne 25, 3)) (z_ne (s 44)) rfl))
theorem m41_45 : M41 45 [.val (.ref b), l1, l2, .val (.int v3), .val (.int v4)] st (put b e s A L B g) Q = (inB (((v3 * 81) + v4)) (A 18) ∧ M41 58 [.val (.ref b), l1, l2, .val (.int v3), .val (.int v4)] (.int (getA (A 18) (((v3 * 81) + v4))) :: .ref b :: st) (put b e s A L B g) Q) := (w_x (dc (.aload_n 0, 1)) rfl).trans ((w_x (dc (.aload_n 0, 1)) rfl).trans ((w_get (dc (.getfield 137, 3)) gf_137 put_o rfl).trans ((w_x (dc (.iload_n 3, 1)) rfl).trans ((w_ki 81 (dc (.bipush 81, 2)) rfl).trans ((w_x (dc (.imul, 1)) rfl).trans ((w_x (dc (.iload 4, 2)) rfl).trans ((w_x (dc (.iadd, 1)) rfl).trans (w_ild (dc (.caload, 1)) rfl put_a18))))))))
theorem cr41_385 : vR tables_1 dn y41 385 = some (true, y39, prog_1_method_47_code, 2, none, 1, 0) := pR_of (cR_of (by decide +kernel) rc_39 dn_39 dn_41 (sig := ⟨[.int], none⟩) (by decide +kernel) (by decide +kernel) rfl rfl) (by decide +kernel) (by decide +kernel)
theorem m41_58 (a0 : Int32) : M41 58 ls [.int a0, .ref b] (put b e s A L B g) Q = M39 0 [.val (.ref b), .val (.int a0)] [] (put b e s A L B g) (fun v H1 => M41 61 ls (v.toList ++ []) H1 Q) := w_virt (as := [.int a0]) (rest := []) (a := b) (dc (.invokevirtual 385, 3)) cr41_385 put_o rfl rfl (Nat.le_of_ble_eq_true rfl) (by show 2 ≤ 2; omega) rfl
theorem m41_61 : M41 61 [l0, l1, l2, l3, .val (.int v4)] st H Q = M41 20 [l0, l1, l2, l3, .val (.int (v4 + 1))] st H Q := (w_iinc (dc (.iinc 4 1, 3)) rfl (by decide) rfl).trans (w_x (dc (.goto (-44), 3)) rfl)
theorem m41_67 : M41 67 ls [] H Q = Q none H := w_vret (dc (.return_, 1)) rfl
theorem m42_0 : M42 0 [l0, .val (.int v1)] st H Q = if v1 = 11 then M42 18 [l0, .val (.int v1)] st H Q else M42 6 [l0, .val (.int v1)] st H Q := (w_x (dc (.iload_n 1, 1)) rfl).trans ((w_ki 11 (dc (.bipush 11, 2)) rfl).trans (w_icmp (dc (.if_icmp .eq 15, 3)) (i_eq v1 11) rfl))
theorem m42_6 : M42 6 [l0, .val (.int v1)] st H Q = if v1 = 12 then M42 18 [l0, .val (.int v1)] st H Q else M42 12 [l0, .val (.int v1)] st H Q := (w_x (dc (.iload_n 1, 1)) rfl).trans ((w_ki 12 (dc (.bipush 12, 2)) rfl).trans (w_icmp (dc (.if_icmp .eq 9, 3)) (i_eq v1 12) rfl))
theorem m42_12 : M42 12 [l0, .val (.int v1)] st H Q = if v1 = 13 then M42 18 [l0, .val (.int v1)] st H Q else M42 23 [l0, .val (.int v1)] st H Q := (w_x (dc (.iload_n 1, 1)) rfl).trans ((w_ki 13 (dc (.bipush 13, 2)) rfl).trans (w_icmpN (dc (.if_icmp .ne 8, 3)) (i_ne v1 13) rfl))
theorem m42_23 : M42 23 [.val (.ref b), l1] st (put b e s A L B g) Q = M42 28 [.val (.ref b), l1] (.int (s 48) :: .ref b :: st) (put b e s A L B g) Q := (w_x (dc (.aload_n 0, 1)) rfl).trans ((w_x (dc (.aload_n 0, 1)) rfl).trans (w_get (dc (.getfield 400, 3)) gf_400 put_o rfl))
theorem cr42_435 : vR tables_1 dn y42 435 = some (true, y23, prog_1_method_75_code, 8, none, 1, 30) := pR_of (cR_of (by decide +kernel) rc_23 dn_23 dn_42 (sig := ⟨[.int], none⟩) (by decide +kernel) (by decide +kernel) rfl rfl) (by decide +kernel) (by decide +kernel)
theorem m42_28 (a0 : Int32) : M42 28 ls [.int a0, .ref b] (put b e s A L B g) Q = M23 0 [.val (.ref b), .val (.int a0), .unset, .unset, .unset, .unset, .unset, .unset] [] (put b e s A L B g) (fun v H1 => M42 31 ls (v.toList ++ []) H1 Q) := w_virt (as := [.int a0]) (rest := []) (a := b) (dc (.invokevirtual 435, 3)) cr42_435 put_o rfl rfl (Nat.le_of_ble_eq_true rfl) (by show 2 ≤ 8; omega) rfl
theorem m42_31 : M42 31 [.val (.ref b), l1] st (put b e s A L B g) Q = if (s 44) = 0 then M42 39 [.val (.ref b), l1] st (put b e s A L B g) Q else M42 38 [.val (.ref b), l1] st (put b e s A L B g) Q := (w_x (dc (.aload_n 0, 1)) rfl).trans ((w_get (dc (.getfield 199, 3)) gf_199 put_o rfl).trans (w_if (dc (.ifCond .eq 4, 3)) (z_eq (s 44)) rfl))
theorem m42_39 : M42 39 [l0, .val (.int v1)] st H Q = if 3 < v1 then M42 52 [l0, .val (.int v1)] st H Q else M42 44 [l0, .val (.int v1)] st H Q := (w_x (dc (.iload_n 1, 1)) rfl).trans ((w_ki 3 (dc (.iconst 3, 1)) rfl).trans (w_icmp (dc (.if_icmp .gt 11, 3)) (i_gt v1 3) rfl))
theorem m42_44 : M42 44 [.val (.ref b), .val (.int v1)] st H Q = M42 46 [.val (.ref b), .val (.int v1)] (.int v1 :: .ref b :: st) H Q := (w_x (dc (.aload_n 0, 1)) rfl).trans (w_x (dc (.iload_n 1, 1)) rfl)
theorem cr42_438 : vR tables_1 dn y42 438 = some (true, y52, prog_1_method_61_code, 2, none, 1, 3) := pR_of (cR_of (by decide +kernel) rc_52 dn_52 dn_42 (sig := ⟨[.int], none⟩) (by decide +kernel) (by decide +kernel) rfl rfl) (by decide +kernel) (by decide +kernel)
theorem m42_46 (a0 : Int32) : M42 46 ls [.int a0, .ref b] (put b e s A L B g) Q = M52 0 [.val (.ref b), .val (.int a0)] [] (put b e s A L B g) (fun v H1 => M42 49 ls (v.toList ++ []) H1 Q) := w_virt (as := [.int a0]) (rest := []) (a := b) (dc (.invokevirtual 438, 3)) cr42_438 put_o rfl rfl (Nat.le_of_ble_eq_true rfl) (by show 2 ≤ 2; omega) rfl
theorem m42_49 : M42 49 ls st H Q = M42 86 ls st H Q := w_x (dc (.goto 37, 3)) rfl
theorem m42_52 : M42 52 [l0, .val (.int v1)] st H Q = if 9 < v1 then M42 68 [l0, .val (.int v1)] st H Q else M42 58 [l0, .val (.int v1)] st H Q := (w_x (dc (.iload_n 1, 1)) rfl).trans ((w_ki 9 (dc (.bipush 9, 2)) rfl).trans (w_icmp (dc (.if_icmp .gt 13, 3)) (i_gt v1 9) rfl))
theorem m42_58 : M42 58 [.val (.ref b), .val (.int v1)] st H Q = M42 62 [.val (.ref b), .val (.int v1)] (.int (v1 - 3) :: .ref b :: st) H Q := (w_x (dc (.aload_n 0, 1)) rfl).trans ((w_x (dc (.iload_n 1, 1)) rfl).trans ((w_ki 3 (dc (.iconst 3, 1)) rfl).trans (w_x (dc (.isub, 1)) rfl)))
theorem cr42_441 : vR tables_1 dn y42 441 = some (true, y44, prog_1_method_62_code, 5, none, 1, 0) := pR_of (cR_of (by decide +kernel) rc_44 dn_44 dn_42 (sig := ⟨[.int], none⟩) (by decide +kernel) (by decide +kernel) rfl rfl) (by decide +kernel) (by decide +kernel)
theorem m42_62 (a0 : Int32) : M42 62 ls [.int a0, .ref b] (put b e s A L B g) Q = M44 0 [.val (.ref b), .val (.int a0), .unset, .unset, .unset] [] (put b e s A L B g) (fun v H1 => M42 65 ls (v.toList ++ []) H1 Q) := w_virt (as := [.int a0]) (rest := []) (a := b) (dc (.invokevirtual 441, 3)) cr42_441 put_o rfl rfl (Nat.le_of_ble_eq_true rfl) (by show 2 ≤ 5; omega) rfl
theorem m42_65 : M42 65 ls st H Q = M42 86 ls st H Q := w_x (dc (.goto 21, 3)) rfl
theorem m42_86 : M42 86 ls [] H Q = Q none H := w_vret (dc (.return_, 1)) rfl
theorem m43_0 : M43 0 [l0, .val (.int v1), .unset, .unset, .unset] st H Q = M43 7 [l0, .val (.int v1), .val (.int v1), .val (.int 0), .val (.int 0)] st H Q := (w_x (dc (.iload_n 1, 1)) rfl).trans ((w_st (i := 2) (p := isI) (dc (.istore_n 2, 1)) rfl rfl rfl rfl rfl rfl).trans ((w_ki 0 (dc (.iconst 0, 1)) rfl).trans ((w_st (i := 3) (p := isI) (dc (.istore_n 3, 1)) rfl rfl rfl rfl rfl rfl).trans ((w_ki 0 (dc (.iconst 0, 1)) rfl).trans (w_st (i := 4) (p := isI) (dc (.istore 4, 2)) rfl rfl rfl rfl rfl rfl)))))
theorem m43_7 : M43 7 [l0, l1, l2, l3, .val (.int v4)] st H Q = if v4 < 641 then M43 15 [l0, l1, l2, l3, .val (.int v4)] st H Q else M43 60 [l0, l1, l2, l3, .val (.int v4)] st H Q := (w_x (dc (.iload 4, 2)) rfl).trans ((w_ki 641 (dc (.sipush 641, 3)) rfl).trans (w_icmpN (dc (.if_icmp .ge 48, 3)) (i_ge v4 641) rfl))
theorem m43_15 : M43 15 [.val (.ref b), l1, .val (.int v2), l3, l4] st (put b e s A L B g) Q = if v2 < (s 46) then M43 23 [.val (.ref b), l1, .val (.int v2), l3, l4] st (put b e s A L B g) Q else M43 60 [.val (.ref b), l1, .val (.int v2), l3, l4] st (put b e s A L B g) Q := (w_x (dc (.iload_n 2, 1)) rfl).trans ((w_x (dc (.aload_n 0, 1)) rfl).trans ((w_get (dc (.getfield 274, 3)) gf_274 put_o rfl).trans (w_icmpN (dc (.if_icmp .ge 40, 3)) (i_ge v2 (s 46)) rfl)))
theorem m43_23 : M43 23 [.val (.ref b), l1, .val (.int v2), l3, l4] st (put b e s A L B g) Q = (inB v2 (A 19) ∧ M43 30 [.val (.ref b), l1, .val (.int v2), l3, l4] (.int (getA (A 19) v2) :: .ref b :: st) (put b e s A L B g) Q) := (w_x (dc (.aload_n 0, 1)) rfl).trans ((w_x (dc (.aload_n 0, 1)) rfl).trans ((w_get (dc (.getfield 140, 3)) gf_140 put_o rfl).trans ((w_x (dc (.iload_n 2, 1)) rfl).trans (w_ild (dc (.caload, 1)) rfl put_a19))))
theorem cr43_271 : vR tables_1 dn y43 271 = some (true, y17, prog_1_method_22_code, 2, (some .boolean), 1, 3) := pR_of (cR_of (by decide +kernel) rc_17 dn_17 dn_43 (sig := ⟨[.int], some .boolean⟩) (by decide +kernel) (by decide +kernel) rfl rfl) (by decide +kernel) (by decide +kernel)
theorem m43_30 (a0 : Int32) : M43 30 ls [.int a0, .ref b] (put b e s A L B g) Q = M17 0 [.val (.ref b), .val (.int a0)] [] (put b e s A L B g) (fun v H1 => M43 33 ls (v.toList ++ []) H1 Q) := w_virt (as := [.int a0]) (rest := []) (a := b) (dc (.invokevirtual 271, 3)) cr43_271 put_o rfl rfl (Nat.le_of_ble_eq_true rfl) (by show 2 ≤ 2; omega) rfl
theorem m43_33 : M43 33 ls (.int x :: st) H Q = if x = 0 then M43 60 ls st H Q else M43 36 ls st H Q := w_if (dc (.ifCond .eq 27, 3)) (z_eq x) rfl
theorem m43_36 : M43 36 [.val (.ref b), l1, .val (.int v2), .val (.int v3), l4] st (put b e s A L B g) Q = (inB v2 (A 19) ∧ M43 46 [.val (.ref b), l1, .val (.int v2), .val (.int v3), l4] (.int (getA (A 19) v2) :: .int (v3 * 10) :: st) (put b e s A L B g) Q) := (w_x (dc (.iload_n 3, 1)) rfl).trans ((w_ki 10 (dc (.bipush 10, 2)) rfl).trans ((w_x (dc (.imul, 1)) rfl).trans ((w_x (dc (.aload_n 0, 1)) rfl).trans ((w_get (dc (.getfield 140, 3)) gf_140 put_o rfl).trans ((w_x (dc (.iload_n 2, 1)) rfl).trans (w_ild (dc (.caload, 1)) rfl put_a19))))))
theorem m43_46 : M43 46 ls st H Q = M43 48 ls (.int 48 :: st) H Q := w_con (dc (.bipush 48, 2)) rfl (by decide)
theorem m43_48 : M43 48 ls (.int y :: .int x :: st) H Q = M43 49 ls (.int (x - y) :: st) H Q := w_x (dc (.isub, 1)) rfl
theorem m43_49 : M43 49 ls (.int y :: .int x :: st) H Q = M43 50 ls (.int (x + y) :: st) H Q := w_x (dc (.iadd, 1)) rfl
theorem m43_50i : M43 50 [l0, l1, l2, .val (.int z), l4] ((.int v) :: st) H Q = M43 51 [l0, l1, l2, .val (.int v), l4] st H Q := w_st (i := 3) (p := isI) (dc (.istore_n 3, 1)) rfl rfl rfl rfl rfl rfl
theorem m43_51 : M43 51 [l0, l1, .val (.int v2), l3, .val (.int v4)] st H Q = M43 7 [l0, l1, .val (.int (v2 + 1)), l3, .val (.int (v4 + 1))] st H Q := (w_iinc (dc (.iinc 2 1, 3)) rfl (by decide) rfl).trans ((w_iinc (dc (.iinc 4 1, 3)) rfl (by decide) rfl).trans (w_x (dc (.goto (-50), 3)) rfl))
theorem m43_60 : M43 60 [.val (.ref b), l1, l2, .val (.int v3), l4] st H Q = M43 64 [.val (.ref b), l1, l2, .val (.int v3), l4] (.long 0 :: .int v3 :: .int 2 :: .ref b :: st) H Q := (w_x (dc (.aload_n 0, 1)) rfl).trans ((w_ki 2 (dc (.iconst 2, 1)) rfl).trans ((w_x (dc (.iload_n 3, 1)) rfl).trans (w_kl 0 (dc (.lconst 0, 1)) rfl)))
theorem cr43_503 : vR tables_1 dn y43 503 = some (true, y24, prog_1_method_77_code, 5, none, 3, 0) := pR_of (cR_of (by decide +kernel) rc_24 dn_24 dn_43 (sig := ⟨[.int, .int, .long], none⟩) (by decide +kernel) (by decide +kernel) rfl rfl) (by decide +kernel) (by decide +kernel)
theorem m43_64 (a0 : Int32) (a1 : Int32) (a2 : Int64) : M43 64 ls [.long a2, .int a1, .int a0, .ref b] (put b e s A L B g) Q = M24 0 [.val (.ref b), .val (.int a0), .val (.int a1), .val (.long a2), .second] [] (put b e s A L B g) (fun v H1 => M43 67 ls (v.toList ++ []) H1 Q) := w_virt (as := [.long a2, .int a1, .int a0]) (rest := []) (a := b) (dc (.invokevirtual 503, 3)) cr43_503 put_o rfl rfl (Nat.le_of_ble_eq_true rfl) (by show 5 ≤ 5; omega) rfl
theorem m43_67 : M43 67 [l0, l1, .val (.int v), l3, l4] st H Q = M43 68 [l0, l1, .val (.int v), l3, l4] (.int v :: st) H Q := w_x (dc (.iload_n 2, 1)) rfl
theorem m43_68 : M43 68 ls (.int z :: st) H Q = Q (some (.int z)) H := w_iret (dc (.ireturn, 1)) rfl
theorem m44_0 : M44 0 [.val (.ref b), l1, .unset, .unset, l4] st (put b e s A L B g) Q = if 1 < (s 49) then M44 12 [.val (.ref b), l1, .val (.int 1), .val (.int 0), l4] st (put b e s A L B g) Q else M44 28 [.val (.ref b), l1, .val (.int 1), .val (.int 0), l4] st (put b e s A L B g) Q := (w_ki 1 (dc (.iconst 1, 1)) rfl).trans ((w_st (i := 2) (p := isI) (dc (.istore_n 2, 1)) rfl rfl rfl rfl rfl rfl).trans ((w_ki 0 (dc (.iconst 0, 1)) rfl).trans ((w_st (i := 3) (p := isI) (dc (.istore_n 3, 1)) rfl rfl rfl rfl rfl rfl).trans ((w_x (dc (.iload_n 2, 1)) rfl).trans ((w_x (dc (.aload_n 0, 1)) rfl).trans ((w_get (dc (.getfield 450, 3)) gf_450 put_o rfl).trans (w_icmpN (dc (.if_icmp .ge 19, 3)) (i_ge 1 (s 49)) rfl)))))))
theorem m44_12 : M44 12 [.val (.ref b), l1, .val (.int v2), l3, l4] st (put b e s A L B g) Q = (inB v2 (A 20) ∧ M44 18 [.val (.ref b), l1, .val (.int v2), l3, l4] (.int (getA (A 20) v2) :: st) (put b e s A L B g) Q) := (w_x (dc (.aload_n 0, 1)) rfl).trans ((w_get (dc (.getfield 143, 3)) gf_143 put_o rfl).trans ((w_x (dc (.iload_n 2, 1)) rfl).trans (w_ild (dc (.iaload, 1)) rfl put_a20)))
theorem m44_18 : M44 18 ls st H Q = M44 20 ls (.int 62 :: st) H Q := w_con (dc (.bipush 62, 2)) rfl (by decide)
theorem m44_20 : M44 20 ls (.int y :: .int x :: st) H Q = if x = y then M44 23 ls st H Q else M44 28 ls st H Q := w_icmpN (dc (.if_icmp .ne 8, 3)) (i_ne x y) rfl
theorem m44_28 : M44 28 [.val (.ref r), l1, l2, l3, l4] st H Q = M44 29 [.val (.ref r), l1, l2, l3, l4] (.ref r :: st) H Q := w_x (dc (.aload_n 0, 1)) rfl
theorem cr44_403 : vR tables_1 dn y44 403 = some (true, y30, prog_1_method_55_code, 1, none, 0, 0) := pR_of (cR_of (by decide +kernel) rc_30 dn_30 dn_44 (sig := ⟨[], none⟩) (by decide +kernel) (by decide +kernel) rfl rfl) (by decide +kernel) (by decide +kernel)
theorem m44_29 : M44 29 ls [.ref b] (put b e s A L B g) Q = M30 0 [.val (.ref b)] [] (put b e s A L B g) (fun v H1 => M44 32 ls (v.toList ++ []) H1 Q) := w_virt (as := []) (rest := []) (a := b) (dc (.invokevirtual 403, 3)) cr44_403 put_o rfl rfl (Nat.le_of_ble_eq_true rfl) (by show 1 ≤ 1; omega) rfl
theorem m44_32 : M44 32 [.val (.ref b), l1, l2, l3, l4] st (put b e s A L B g) Q = if (s 44) = 0 then M44 40 [.val (.ref b), l1, l2, l3, l4] st (put b e s A L B g) Q else M44 39 [.val (.ref b), l1, l2, l3, l4] st (put b e s A L B g) Q := (w_x (dc (.aload_n 0, 1)) rfl).trans ((w_get (dc (.getfield 199, 3)) gf_199 put_o rfl).trans (w_if (dc (.ifCond .eq 4, 3)) (z_eq (s 44)) rfl))
theorem m44_40 : M44 40 [.val (.ref b), l1, .val (.int v2), l3, l4] st H Q = M44 42 [.val (.ref b), l1, .val (.int v2), l3, l4] (.int v2 :: .ref b :: st) H Q := (w_x (dc (.aload_n 0, 1)) rfl).trans (w_x (dc (.iload_n 2, 1)) rfl)
theorem cr44_459 : vR tables_1 dn y44 459 = some (true, y47, prog_1_method_78_code, 7, (some .int), 1, 24) := pR_of (cR_of (by decide +kernel) rc_47 dn_47 dn_44 (sig := ⟨[.int], some .int⟩) (by decide +kernel) (by decide +kernel) rfl rfl) (by decide +kernel) (by decide +kernel)
theorem m44_42 (a0 : Int32) : M44 42 ls [.int a0, .ref b] (put b e s A L B g) Q = M47 0 [.val (.ref b), .val (.int a0), .unset, .unset, .unset, .unset, .unset] [] (put b e s A L B g) (fun v H1 => M44 45 ls (v.toList ++ []) H1 Q) := w_virt (as := [.int a0]) (rest := []) (a := b) (dc (.invokevirtual 459, 3)) cr44_459 put_o rfl rfl (Nat.le_of_ble_eq_true rfl) (by show 2 ≤ 7; omega) rfl
theorem m44_45u : M44 45 [l0, l1, l2, l3, .unset] ((.int v) :: st) H Q = M44 47 [l0, l1, l2, l3, .val (.int v)] st H Q := w_st (i := 4) (p := isI) (dc (.istore 4, 2)) rfl rfl rfl rfl rfl rfl
theorem m44_47 : M44 47 [.val (.ref b), l1, l2, l3, .val (.int v4)] st (put b e s A L B g) Q = if v4 = (s 49) then M44 61 [.val (.ref b), l1, l2, l3, .val (.int v4)] st (put b e s A L B g) Q else M44 56 [.val (.ref b), l1, l2, l3, .val (.int v4)] st (put b e s A L B g) Q := (w_x (dc (.iload 4, 2)) rfl).trans ((w_x (dc (.aload_n 0, 1)) rfl).trans ((w_get (dc (.getfield 450, 3)) gf_450 put_o rfl).trans (w_icmp (dc (.if_icmp .eq 8, 3)) (i_eq v4 (s 49)) rfl)))
theorem m44_61 : M44 61 [l0, l1, l2, .val (.int v3), l4] st H Q = if v3 = 0 then M44 65 [l0, l1, l2, .val (.int v3), l4] st H Q else M44 102 [l0, l1, l2, .val (.int v3), l4] st H Q := (w_x (dc (.iload_n 3, 1)) rfl).trans (w_ifN (dc (.ifCond .ne 40, 3)) (z_ne v3) rfl)
theorem m44_65 : M44 65 [.val (.ref b), l1, l2, l3, l4] st (put b e s A L B g) Q = if (s 52) = 0 then M44 72 [.val (.ref b), l1, l2, l3, l4] st (put b e s A L B g) Q else M44 102 [.val (.ref b), l1, l2, l3, l4] st (put b e s A L B g) Q := (w_x (dc (.aload_n 0, 1)) rfl).trans ((w_get (dc (.getfield 462, 3)) gf_462 put_o rfl).trans (w_ifN (dc (.ifCond .ne 33, 3)) (z_ne (s 52)) rfl))
theorem m44_72 : M44 72 [.val (.ref b), l1, l2, l3, l4] st (put b e s A L B g) Q = if (s 50) < 0 then M44 102 [.val (.ref b), l1, l2, l3, l4] st (put b e s A L B g) Q else M44 79 [.val (.ref b), l1, l2, l3, l4] st (put b e s A L B g) Q := (w_x (dc (.aload_n 0, 1)) rfl).trans ((w_get (dc (.getfield 465, 3)) gf_465 put_o rfl).trans (w_if (dc (.ifCond .lt 26, 3)) (z_lt (s 50)) rfl))
theorem m44_79 : M44 79 [.val (.ref b), l1, l2, l3, l4] st (put b e s A L B g) Q = if 15 < (s 50) then M44 102 [.val (.ref b), l1, l2, l3, l4] st (put b e s A L B g) Q else M44 88 [.val (.ref b), l1, l2, l3, l4] st (put b e s A L B g) Q := (w_x (dc (.aload_n 0, 1)) rfl).trans ((w_get (dc (.getfield 465, 3)) gf_465 put_o rfl).trans ((w_ki 15 (dc (.bipush 15, 2)) rfl).trans (w_icmp (dc (.if_icmp .gt 17, 3)) (i_gt (s 50) 15) rfl)))
theorem m44_88 : M44 88 [.val (.ref b), .val (.int v1), l2, l3, l4] st (put b e s A L B g) Q = M44 98 [.val (.ref b), .val (.int v1), l2, l3, l4] (.int ((16 * v1) + (s 50)) :: .ref b :: st) (put b e s A L B g) Q := (w_x (dc (.aload_n 0, 1)) rfl).trans ((w_ki 16 (dc (.bipush 16, 2)) rfl).trans ((w_x (dc (.iload_n 1, 1)) rfl).trans ((w_x (dc (.imul, 1)) rfl).trans ((w_x (dc (.aload_n 0, 1)) rfl).trans ((w_get (dc (.getfield 465, 3)) gf_465 put_o rfl).trans (w_x (dc (.iadd, 1)) rfl))))))
theorem cr44_456 : vR tables_1 dn y44 456 = some (true, y48, prog_1_method_57_code, 2, none, 1, 61) := pR_of (cR_of (by decide +kernel) rc_48 dn_48 dn_44 (sig := ⟨[.int], none⟩) (by decide +kernel) (by decide +kernel) rfl rfl) (by decide +kernel) (by decide +kernel)
theorem m44_98 (a0 : Int32) : M44 98 ls [.int a0, .ref b] (put b e s A L B g) Q = M48 0 [.val (.ref b), .val (.int a0)] [] (put b e s A L B g) (fun v H1 => M44 101 ls (v.toList ++ []) H1 Q) := w_virt (as := [.int a0]) (rest := []) (a := b) (dc (.invokevirtual 456, 3)) cr44_456 put_o rfl rfl (Nat.le_of_ble_eq_true rfl) (by show 2 ≤ 2; omega) rfl
theorem m44_101 : M44 101 ls [] H Q = Q none H := w_vret (dc (.return_, 1)) rfl
theorem m44_102 : M44 102 [.val (.ref b), .val (.int v1), l2, l3, l4] st H Q = M44 108 [.val (.ref b), .val (.int v1), l2, l3, l4] (.int (128 + v1) :: .ref b :: st) H Q := (w_x (dc (.aload_n 0, 1)) rfl).trans ((w_ki 128 (dc (.sipush 128, 3)) rfl).trans ((w_x (dc (.iload_n 1, 1)) rfl).trans (w_x (dc (.iadd, 1)) rfl)))
theorem m44_108 (a0 : Int32) : M44 108 ls [.int a0, .ref b] (put b e s A L B g) Q = M48 0 [.val (.ref b), .val (.int a0)] [] (put b e s A L B g) (fun v H1 => M44 111 ls (v.toList ++ []) H1 Q) := w_virt (as := [.int a0]) (rest := []) (a := b) (dc (.invokevirtual 456, 3)) cr44_456 put_o rfl rfl (Nat.le_of_ble_eq_true rfl) (by show 2 ≤ 2; omega) rfl
theorem m44_111 : M44 111 [.val (.ref b), l1, l2, l3, l4] st (put b e s A L B g) Q = M44 120 [.val (.ref b), l1, l2, l3, l4] (.int ((s 50) &&& 255) :: .ref b :: st) (put b e s A L B g) Q := (w_x (dc (.aload_n 0, 1)) rfl).trans ((w_x (dc (.aload_n 0, 1)) rfl).trans ((w_get (dc (.getfield 465, 3)) gf_465 put_o rfl).trans ((w_ki 255 (dc (.sipush 255, 3)) rfl).trans (w_x (dc (.iand, 1)) rfl))))
theorem m44_120 (a0 : Int32) : M44 120 ls [.int a0, .ref b] (put b e s A L B g) Q = M48 0 [.val (.ref b), .val (.int a0)] [] (put b e s A L B g) (fun v H1 => M44 123 ls (v.toList ++ []) H1 Q) := w_virt (as := [.int a0]) (rest := []) (a := b) (dc (.invokevirtual 456, 3)) cr44_456 put_o rfl rfl (Nat.le_of_ble_eq_true rfl) (by show 2 ≤ 2; omega) rfl
theorem m44_123 : M44 123 [.val (.ref b), l1, l2, l3, l4] st (put b e s A L B g) Q = if (s 44) = 0 then M44 130 [.val (.ref b), l1, l2, l3, l4] st (put b e s A L B g) Q else M44 147 [.val (.ref b), l1, l2, l3, l4] st (put b e s A L B g) Q := (w_x (dc (.aload_n 0, 1)) rfl).trans ((w_get (dc (.getfield 199, 3)) gf_199 put_o rfl).trans (w_ifN (dc (.ifCond .ne 20, 3)) (z_ne (s 44)) rfl))
theorem m44_130 : M44 130 [.val (.ref b), l1, l2, l3, l4] st (put b e s A L B g) Q = if (s 52) = 0 then M44 147 [.val (.ref b), l1, l2, l3, l4] st (put b e s A L B g) Q else M44 137 [.val (.ref b), l1, l2, l3, l4] st (put b e s A L B g) Q := (w_x (dc (.aload_n 0, 1)) rfl).trans ((w_get (dc (.getfield 462, 3)) gf_462 put_o rfl).trans (w_if (dc (.ifCond .eq 13, 3)) (z_eq (s 52)) rfl))
theorem m44_137 : M44 137 [.val (.ref b), l1, l2, l3, l4] st (put b e s A L B g) Q = M44 144 [.val (.ref b), l1, l2, l3, l4] (.int ((s 41) - 1) :: .ref b :: st) (put b e s A L B g) Q := (w_x (dc (.aload_n 0, 1)) rfl).trans ((w_x (dc (.aload_n 0, 1)) rfl).trans ((w_get (dc (.getfield 239, 3)) gf_239 put_o rfl).trans ((w_ki 1 (dc (.iconst 1, 1)) rfl).trans (w_x (dc (.isub, 1)) rfl))))
theorem cr44_468 : vR tables_1 dn y44 468 = some (true, y51, prog_1_method_81_code, 3, none, 1, 60) := pR_of (cR_of (by decide +kernel) rc_51 dn_51 dn_44 (sig := ⟨[.int], none⟩) (by decide +kernel) (by decide +kernel) rfl rfl) (by decide +kernel) (by decide +kernel)
theorem m44_144 (a0 : Int32) : M44 144 ls [.int a0, .ref b] (put b e s A L B g) Q = M51 0 [.val (.ref b), .val (.int a0), .unset] [] (put b e s A L B g) (fun v H1 => M44 147 ls (v.toList ++ []) H1 Q) := w_virt (as := [.int a0]) (rest := []) (a := b) (dc (.invokevirtual 468, 3)) cr44_468 put_o rfl rfl (Nat.le_of_ble_eq_true rfl) (by show 2 ≤ 3; omega) rfl
theorem m44_147 : M44 147 ls [] H Q = Q none H := w_vret (dc (.return_, 1)) rfl
theorem m45_0 : M45 0 [l0, .val (.long w1), l2, l3] st H Q = if 0 < (XT.cmpL w1 0) then M45 6 [l0, .val (.long w1), l2, l3] st H Q else M45 31 [l0, .val (.long w1), l2, l3] st H Q := (w_x (dc (.lload_n 1, 1)) rfl).trans ((w_kl 0 (dc (.lconst 0, 1)) rfl).trans ((w_x (dc (.lcmp, 1)) rfl).trans (w_ifN (dc (.ifCond .le 28, 3)) (z_le (XT.cmpL w1 0)) rfl)))
theorem m45_6 : M45 6 [.val (.ref b), .val (.long w1), l2, l3] st H Q = M45 8 [.val (.ref b), .val (.long w1), l2, l3] (.long w1 :: .ref b :: st) H Q := (w_x (dc (.aload_n 0, 1)) rfl).trans (w_x (dc (.lload_n 1, 1)) rfl)
theorem cr45_394 : vR tables_1 dn y45 394 = some (true, y25, prog_1_method_34_code, 4, (some .int), 1, 0) := pR_of (cR_of (by decide +kernel) rc_25 dn_25 dn_45 (sig := ⟨[.long], some .int⟩) (by decide +kernel) (by decide +kernel) rfl rfl) (by decide +kernel) (by decide +kernel)
theorem m45_8 (a0 : Int64) : M45 8 ls [.long a0, .ref b] (put b e s A L B g) Q = M25 0 [.val (.ref b), .val (.long a0), .second, .unset] [] (put b e s A L B g) (fun v H1 => M45 11 ls (v.toList ++ []) H1 Q) := w_virt (as := [.long a0]) (rest := []) (a := b) (dc (.invokevirtual 394, 3)) cr45_394 put_o rfl rfl (Nat.le_of_ble_eq_true rfl) (by show 3 ≤ 4; omega) rfl
theorem m45_11 : M45 11 ls (.int x :: st) H Q = if x < 0 then M45 14 ls st H Q else M45 31 ls st H Q := w_ifN (dc (.ifCond .ge 20, 3)) (z_ge x) rfl
theorem m45_14 : M45 14 [.val (.ref b), .val (.long w1), l2, l3] st H Q = M45 16 [.val (.ref b), .val (.long w1), l2, l3] (.long w1 :: .ref b :: st) H Q := (w_x (dc (.aload_n 0, 1)) rfl).trans (w_x (dc (.lload_n 1, 1)) rfl)
theorem cr45_432 : vR tables_1 dn y45 432 = some (true, y46, prog_1_method_35_code, 4, (some .int), 1, 32) := pR_of (cR_of (by decide +kernel) rc_46 dn_46 dn_45 (sig := ⟨[.long], some .int⟩) (by decide +kernel) (by decide +kernel) rfl rfl) (by decide +kernel) (by decide +kernel)
theorem m45_16 (a0 : Int64) : M45 16 ls [.long a0, .ref b] (put b e s A L B g) Q = M46 0 [.val (.ref b), .val (.long a0), .second, .unset] [] (put b e s A L B g) (fun v H1 => M45 19 ls (v.toList ++ []) H1 Q) := w_virt (as := [.long a0]) (rest := []) (a := b) (dc (.invokevirtual 432, 3)) cr45_432 put_o rfl rfl (Nat.le_of_ble_eq_true rfl) (by show 3 ≤ 4; omega) rfl
theorem m45_19 : M45 19 ls (.int x :: st) H Q = if x < 0 then M45 22 ls st H Q else M45 31 ls st H Q := w_ifN (dc (.ifCond .ge 12, 3)) (z_ge x) rfl
theorem m45_22 : M45 22 [.val (.ref b), l1, l2, l3] st (put b e s A L B g) Q = if (s 28) < 16 then M45 36 [.val (.ref b), l1, l2, l3] st (put b e s A L B g) Q else M45 31 [.val (.ref b), l1, l2, l3] st (put b e s A L B g) Q := (w_x (dc (.aload_n 0, 1)) rfl).trans ((w_get (dc (.getfield 230, 3)) gf_230 put_o rfl).trans ((w_ki 16 (dc (.bipush 16, 2)) rfl).trans (w_icmp (dc (.if_icmp .lt 8, 3)) (i_lt (s 28) 16) rfl)))
theorem m45_36 : M45 36 [.val (.ref b), .val (.long w1), l2, l3] st (put b e s A L B g) Q = (inB (s 28) (B 0) ∧ M45 46 [.val (.ref b), .val (.long w1), l2, l3] st (put b e s A L (ou B 0 (setA (B 0) (s 28) w1)) g) Q) := (w_x (dc (.aload_n 0, 1)) rfl).trans ((w_get (dc (.getfield 87, 3)) gf_87 put_o rfl).trans ((w_x (dc (.aload_n 0, 1)) rfl).trans ((w_get (dc (.getfield 230, 3)) gf_230 put_o rfl).trans ((w_x (dc (.lload_n 1, 1)) rfl).trans (w_lst (dc (.lastore, 1)) put_l0 (Nat.zero_le _) put_lw0)))))
theorem m45_46 : M45 46 [.val (.ref b), l1, l2, .val (.int v3)] st (put b e s A L B g) Q = (inB (s 28) (A 4) ∧ M45 56 [.val (.ref b), l1, l2, .val (.int v3)] st (put b e s (ou A 4 (setA (A 4) (s 28) v3)) L B g) Q) := (w_x (dc (.aload_n 0, 1)) rfl).trans ((w_get (dc (.getfield 91, 3)) gf_91 put_o rfl).trans ((w_x (dc (.aload_n 0, 1)) rfl).trans ((w_get (dc (.getfield 230, 3)) gf_230 put_o rfl).trans ((w_x (dc (.iload_n 3, 1)) rfl).trans (w_ist (dc (.iastore, 1)) rfl put_a4 (Nat.zero_le _) rfl put_w4)))))
theorem pf45_230 : pfR tables_1 y45.cls y45.name 230 = some ("MacroAssembler", 59, .int) := by decide +kernel
theorem m45_56 : M45 56 [.val (.ref b), l1, l2, l3] st (put b e s A L B g) Q = M45 66 [.val (.ref b), l1, l2, l3] st (put b e (ou s 28 (((s 28) + 1))) A L B g) Q := (w_x (dc (.aload_n 0, 1)) rfl).trans ((w_x (dc (.dup, 1)) rfl).trans ((w_get (dc (.getfield 230, 3)) gf_230 put_o rfl).trans ((w_ki 1 (dc (.iconst 1, 1)) rfl).trans ((w_x (dc (.iadd, 1)) rfl).trans (w_put (dc (.putfield 230, 3)) pf45_230 put_o (Nat.zero_le _) (by show 59 < 90; omega) rfl put_s28)))))
theorem m45_66 : M45 66 ls [] H Q = Q none H := w_vret (dc (.return_, 1)) rfl
theorem m46_0 : M46 0 [l0, l1, l2, .unset] st H Q = M46 2 [l0, l1, l2, .val (.int 0)] st H Q := (w_ki 0 (dc (.iconst 0, 1)) rfl).trans (w_st (i := 3) (p := isI) (dc (.istore_n 3, 1)) rfl rfl rfl rfl rfl rfl)
theorem m46_2 : M46 2 [.val (.ref b), l1, l2, .val (.int v3)] st (put b e s A L B g) Q = if v3 < (s 28) then M46 10 [.val (.ref b), l1, l2, .val (.int v3)] st (put b e s A L B g) Q else M46 35 [.val (.ref b), l1, l2, .val (.int v3)] st (put b e s A L B g) Q := (w_x (dc (.iload_n 3, 1)) rfl).trans ((w_x (dc (.aload_n 0, 1)) rfl).trans ((w_get (dc (.getfield 230, 3)) gf_230 put_o rfl).trans (w_icmpN (dc (.if_icmp .ge 28, 3)) (i_ge v3 (s 28)) rfl)))
theorem m46_10 : M46 10 [l0, l1, l2, .val (.int v3)] st H Q = if v3 < 16 then M46 16 [l0, l1, l2, .val (.int v3)] st H Q else M46 35 [l0, l1, l2, .val (.int v3)] st H Q := (w_x (dc (.iload_n 3, 1)) rfl).trans ((w_ki 16 (dc (.bipush 16, 2)) rfl).trans (w_icmpN (dc (.if_icmp .ge 22, 3)) (i_ge v3 16) rfl))
theorem m46_16 : M46 16 [.val (.ref b), l1, l2, .val (.int v3)] st (put b e s A L B g) Q = (inB v3 (B 0) ∧ M46 22 [.val (.ref b), l1, l2, .val (.int v3)] (.long (getL (B 0) v3) :: st) (put b e s A L B g) Q) := (w_x (dc (.aload_n 0, 1)) rfl).trans ((w_get (dc (.getfield 87, 3)) gf_87 put_o rfl).trans ((w_x (dc (.iload_n 3, 1)) rfl).trans (w_lld (dc (.laload, 1)) put_l0)))
theorem m46_22 : M46 22 [l0, .val (.long J1), l2, l3] st H Q = M46 23 [l0, .val (.long J1), l2, l3] (.long J1 :: st) H Q := w_x (dc (.lload_n 1, 1)) rfl
theorem m46_23 : M46 23 ls (.long J2 :: .long J1 :: st) H Q = M46 24 ls (.int (XT.cmpL J1 J2) :: st) H Q := w_x (dc (.lcmp, 1)) rfl
theorem m46_24 : M46 24 ls (.int x :: st) H Q = if x = 0 then M46 27 ls st H Q else M46 29 ls st H Q := w_ifN (dc (.ifCond .ne 5, 3)) (z_ne x) rfl
theorem m46_27 : M46 27 [l0, l1, l2, .val (.int v)] st H Q = M46 28 [l0, l1, l2, .val (.int v)] (.int v :: st) H Q := w_x (dc (.iload_n 3, 1)) rfl
theorem m46_28 : M46 28 ls (.int z :: st) H Q = Q (some (.int z)) H := w_iret (dc (.ireturn, 1)) rfl
theorem m46_29 : M46 29 [l0, l1, l2, .val (.int v3)] st H Q = M46 2 [l0, l1, l2, .val (.int (v3 + 1))] st H Q := (w_iinc (dc (.iinc 3 1, 3)) rfl (by decide) rfl).trans (w_x (dc (.goto (-30), 3)) rfl)
theorem m46_35 : M46 35 ls st H Q = M46 36 ls (.int (-1) :: st) H Q := w_con (dc (.iconst (-1), 1)) rfl (by decide)
theorem m46_36 : M46 36 ls (.int z :: st) H Q = Q (some (.int z)) H := w_iret (dc (.ireturn, 1)) rfl
theorem pf47_465 : pfR tables_1 y47.cls y47.name 465 = some ("MacroAssembler", 86, .int) := by decide +kernel
theorem m47_0 : M47 0 [.val (.ref b), l1, l2, l3, l4, l5, l6] st (put b e s A L B g) Q = M47 5 [.val (.ref b), l1, l2, l3, l4, l5, l6] st (put b e (ou s 50 0) A L B g) Q := (w_x (dc (.aload_n 0, 1)) rfl).trans ((w_ki 0 (dc (.iconst 0, 1)) rfl).trans (w_put (dc (.putfield 465, 3)) pf47_465 put_o (Nat.zero_le _) (by show 86 < 90; omega) rfl put_s50))
theorem pf47_510 : pfR tables_1 y47.cls y47.name 510 = some ("MacroAssembler", 87, .int) := by decide +kernel
theorem m47_5 : M47 5 [.val (.ref b), l1, l2, l3, l4, l5, l6] st (put b e s A L B g) Q = M47 10 [.val (.ref b), l1, l2, l3, l4, l5, l6] st (put b e (ou s 51 0) A L B g) Q := (w_x (dc (.aload_n 0, 1)) rfl).trans ((w_ki 0 (dc (.iconst 0, 1)) rfl).trans (w_put (dc (.putfield 510, 3)) pf47_510 put_o (Nat.zero_le _) (by show 87 < 90; omega) rfl put_s51))
theorem pf47_462 : pfR tables_1 y47.cls y47.name 462 = some ("MacroAssembler", 88, .boolean) := by decide +kernel
theorem m47_10 : M47 10 [.val (.ref b), l1, l2, l3, l4, l5, l6] st (put b e s A L B g) Q = M47 15 [.val (.ref b), l1, l2, l3, l4, l5, l6] st (put b e (ou s 52 (nar .boolean 0)) A L B g) Q := (w_x (dc (.aload_n 0, 1)) rfl).trans ((w_ki 0 (dc (.iconst 0, 1)) rfl).trans (w_put (dc (.putfield 462, 3)) pf47_462 put_o (Nat.zero_le _) (by show 88 < 90; omega) rfl put_s52))
theorem pf47_513 : pfR tables_1 y47.cls y47.name 513 = some ("MacroAssembler", 89, .boolean) := by decide +kernel
theorem m47_15 : M47 15 [.val (.ref b), l1, l2, l3, l4, l5, l6] st (put b e s A L B g) Q = M47 20 [.val (.ref b), l1, l2, l3, l4, l5, l6] st (put b e (ou s 53 (nar .boolean 0)) A L B g) Q := (w_x (dc (.aload_n 0, 1)) rfl).trans ((w_ki 0 (dc (.iconst 0, 1)) rfl).trans (w_put (dc (.putfield 513, 3)) pf47_513 put_o (Nat.zero_le _) (by show 89 < 90; omega) rfl put_s53))
theorem m47_20 : M47 20 [l0, .val (.int v1), .unset, .unset, .unset, l5, l6] st H Q = M47 27 [l0, .val (.int v1), .val (.int v1), .val (.int 1), .val (.int 0), l5, l6] st H Q := (w_x (dc (.iload_n 1, 1)) rfl).trans ((w_st (i := 2) (p := isI) (dc (.istore_n 2, 1)) rfl rfl rfl rfl rfl rfl).trans ((w_ki 1 (dc (.iconst 1, 1)) rfl).trans ((w_st (i := 3) (p := isI) (dc (.istore_n 3, 1)) rfl rfl rfl rfl rfl rfl).trans ((w_ki 0 (dc (.iconst 0, 1)) rfl).trans (w_st (i := 4) (p := isI) (dc (.istore 4, 2)) rfl rfl rfl rfl rfl rfl)))))
theorem m47_27 : M47 27 [l0, l1, l2, l3, .val (.int v4), l5, l6] st H Q = if v4 < 641 then M47 35 [l0, l1, l2, l3, .val (.int v4), l5, l6] st H Q else M47 215 [l0, l1, l2, l3, .val (.int v4), l5, l6] st H Q := (w_x (dc (.iload 4, 2)) rfl).trans ((w_ki 641 (dc (.sipush 641, 3)) rfl).trans (w_icmpN (dc (.if_icmp .ge 183, 3)) (i_ge v4 641) rfl))
theorem m47_35 : M47 35 [l0, l1, l2, .val (.int v), l4, l5, l6] st H Q = M47 36 [l0, l1, l2, .val (.int v), l4, l5, l6] (.int v :: st) H Q := w_x (dc (.iload_n 3, 1)) rfl
theorem m47_36u : M47 36 [l0, l1, l2, l3, l4, .unset, l6] ((.int v) :: st) H Q = M47 38 [l0, l1, l2, l3, l4, .val (.int v), l6] st H Q := w_st (i := 5) (p := isI) (dc (.istore 5, 2)) rfl rfl rfl rfl rfl rfl
theorem m47_36i : M47 36 [l0, l1, l2, l3, l4, .val (.int z), l6] ((.int v) :: st) H Q = M47 38 [l0, l1, l2, l3, l4, .val (.int v), l6] st H Q := w_st (i := 5) (p := isI) (dc (.istore 5, 2)) rfl rfl rfl rfl rfl rfl
theorem m47_38 : M47 38 ls st H Q = M47 39 ls (.int 0 :: st) H Q := w_con (dc (.iconst 0, 1)) rfl (by decide)
theorem m47_39u : M47 39 [l0, l1, l2, l3, l4, l5, .unset] ((.int v) :: st) H Q = M47 41 [l0, l1, l2, l3, l4, l5, .val (.int v)] st H Q := w_st (i := 6) (p := isI) (dc (.istore 6, 2)) rfl rfl rfl rfl rfl rfl
theorem m47_39i : M47 39 [l0, l1, l2, l3, l4, l5, .val (.int z)] ((.int v) :: st) H Q = M47 41 [l0, l1, l2, l3, l4, l5, .val (.int v)] st H Q := w_st (i := 6) (p := isI) (dc (.istore 6, 2)) rfl rfl rfl rfl rfl rfl
theorem m47_41 : M47 41 [l0, l1, l2, l3, l4, l5, .val (.int v6)] st H Q = if v6 < 641 then M47 49 [l0, l1, l2, l3, l4, l5, .val (.int v6)] st H Q else M47 82 [l0, l1, l2, l3, l4, l5, .val (.int v6)] st H Q := (w_x (dc (.iload 6, 2)) rfl).trans ((w_ki 641 (dc (.sipush 641, 3)) rfl).trans (w_icmpN (dc (.if_icmp .ge 36, 3)) (i_ge v6 641) rfl))
theorem m47_49 : M47 49 [.val (.ref b), l1, .val (.int v2), l3, l4, l5, l6] st (put b e s A L B g) Q = if v2 < (s 49) then M47 57 [.val (.ref b), l1, .val (.int v2), l3, l4, l5, l6] st (put b e s A L B g) Q else M47 82 [.val (.ref b), l1, .val (.int v2), l3, l4, l5, l6] st (put b e s A L B g) Q := (w_x (dc (.iload_n 2, 1)) rfl).trans ((w_x (dc (.aload_n 0, 1)) rfl).trans ((w_get (dc (.getfield 450, 3)) gf_450 put_o rfl).trans (w_icmpN (dc (.if_icmp .ge 28, 3)) (i_ge v2 (s 49)) rfl)))
theorem m47_57 : M47 57 [.val (.ref b), l1, .val (.int v2), l3, l4, l5, l6] st (put b e s A L B g) Q = (inB v2 (A 20) ∧ M47 63 [.val (.ref b), l1, .val (.int v2), l3, l4, l5, l6] (.int (getA (A 20) v2) :: st) (put b e s A L B g) Q) := (w_x (dc (.aload_n 0, 1)) rfl).trans ((w_get (dc (.getfield 143, 3)) gf_143 put_o rfl).trans ((w_x (dc (.iload_n 2, 1)) rfl).trans (w_ild (dc (.iaload, 1)) rfl put_a20)))
theorem m47_63 : M47 63 ls st H Q = M47 65 ls (.int 45 :: st) H Q := w_con (dc (.bipush 45, 2)) rfl (by decide)
theorem m47_65 : M47 65 ls (.int y :: .int x :: st) H Q = if x = y then M47 68 ls st H Q else M47 82 ls st H Q := w_icmpN (dc (.if_icmp .ne 17, 3)) (i_ne x y) rfl
theorem m47_82 : M47 82 [.val (.ref b), l1, .val (.int v2), l3, l4, l5, l6] st (put b e s A L B g) Q = if v2 < (s 49) then M47 90 [.val (.ref b), l1, .val (.int v2), l3, l4, l5, l6] st (put b e s A L B g) Q else M47 94 [.val (.ref b), l1, .val (.int v2), l3, l4, l5, l6] st (put b e s A L B g) Q := (w_x (dc (.iload_n 2, 1)) rfl).trans ((w_x (dc (.aload_n 0, 1)) rfl).trans ((w_get (dc (.getfield 450, 3)) gf_450 put_o rfl).trans (w_icmpN (dc (.if_icmp .ge 7, 3)) (i_ge v2 (s 49)) rfl)))
theorem m47_90 : M47 90 [l0, l1, .val (.int v2), l3, l4, l5, l6] st H Q = if v2 < 0 then M47 94 [l0, l1, .val (.int v2), l3, l4, l5, l6] st H Q else M47 96 [l0, l1, .val (.int v2), l3, l4, l5, l6] st H Q := (w_x (dc (.iload_n 2, 1)) rfl).trans (w_ifN (dc (.ifCond .ge 5, 3)) (z_ge v2) rfl)
theorem m47_96 : M47 96 [.val (.ref b), l1, .val (.int v2), l3, l4, l5, l6] st (put b e s A L B g) Q = (inB v2 (A 20) ∧ M47 102 [.val (.ref b), l1, .val (.int v2), l3, l4, l5, l6] (.int (getA (A 20) v2) :: st) (put b e s A L B g) Q) := (w_x (dc (.aload_n 0, 1)) rfl).trans ((w_get (dc (.getfield 143, 3)) gf_143 put_o rfl).trans ((w_x (dc (.iload_n 2, 1)) rfl).trans (w_ild (dc (.iaload, 1)) rfl put_a20)))
theorem m47_102 : M47 102 ls st H Q = M47 103 ls (.int 2 :: st) H Q := w_con (dc (.iconst 2, 1)) rfl (by decide)
theorem m47_103 : M47 103 ls (.int y :: .int x :: st) H Q = if x = y then M47 106 ls st H Q else M47 127 ls st H Q := w_icmpN (dc (.if_icmp .ne 24, 3)) (i_ne x y) rfl
theorem m47_106 : M47 106 [.val (.ref b), l1, .val (.int v2), l3, l4, .val (.int v5), l6] st (put b e s A L B g) Q = (inB v2 (A 21) ∧ M47 119 [.val (.ref b), l1, .val (.int v2), l3, l4, .val (.int v5), l6] (.int (getA (A 21) v2) :: .int v5 :: .int (s 50) :: .ref b :: st) (put b e s A L B g) Q) := (w_x (dc (.aload_n 0, 1)) rfl).trans ((w_x (dc (.dup, 1)) rfl).trans ((w_get (dc (.getfield 465, 3)) gf_465 put_o rfl).trans ((w_x (dc (.iload 5, 2)) rfl).trans ((w_x (dc (.aload_n 0, 1)) rfl).trans ((w_get (dc (.getfield 146, 3)) gf_146 put_o rfl).trans ((w_x (dc (.iload_n 2, 1)) rfl).trans (w_ild (dc (.iaload, 1)) rfl put_a21)))))))
theorem m47_119 : M47 119 ls (.int y :: .int x :: st) H Q = M47 120 ls (.int (x * y) :: st) H Q := w_x (dc (.imul, 1)) rfl
theorem m47_120 : M47 120 ls (.int y :: .int x :: st) H Q = M47 121 ls (.int (x + y) :: st) H Q := w_x (dc (.iadd, 1)) rfl
theorem m47_121 : M47 121 ls (.int v :: .ref b :: st) (put b e s A L B g) Q = M47 124 ls st (put b e (ou s 50 v) A L B g) Q := w_put (dc (.putfield 465, 3)) pf47_465 put_o (Nat.zero_le _) (by show 86 < 90; omega) rfl put_s50
theorem m47_124 : M47 124 ls st H Q = M47 154 ls st H Q := w_x (dc (.goto 30, 3)) rfl
theorem m47_127 : M47 127 [.val (.ref b), l1, .val (.int v2), l3, l4, l5, l6] st (put b e s A L B g) Q = (inB v2 (A 20) ∧ M47 133 [.val (.ref b), l1, .val (.int v2), l3, l4, l5, l6] (.int (getA (A 20) v2) :: st) (put b e s A L B g) Q) := (w_x (dc (.aload_n 0, 1)) rfl).trans ((w_get (dc (.getfield 143, 3)) gf_143 put_o rfl).trans ((w_x (dc (.iload_n 2, 1)) rfl).trans (w_ild (dc (.iaload, 1)) rfl put_a20)))
theorem m47_133 : M47 133 ls st H Q = M47 134 ls (.int 1 :: st) H Q := w_con (dc (.iconst 1, 1)) rfl (by decide)
theorem m47_134 : M47 134 ls (.int y :: .int x :: st) H Q = if x = y then M47 137 ls st H Q else M47 152 ls st H Q := w_icmpN (dc (.if_icmp .ne 18, 3)) (i_ne x y) rfl
theorem m47_137 : M47 137 [.val (.ref b), l1, .val (.int v2), l3, l4, l5, l6] st (put b e s A L B g) Q = (inB v2 (B 2) ∧ M47 144 [.val (.ref b), l1, .val (.int v2), l3, l4, l5, l6] (.long (getL (B 2) v2) :: .ref b :: st) (put b e s A L B g) Q) := (w_x (dc (.aload_n 0, 1)) rfl).trans ((w_x (dc (.aload_n 0, 1)) rfl).trans ((w_get (dc (.getfield 149, 3)) gf_149 put_o rfl).trans ((w_x (dc (.iload_n 2, 1)) rfl).trans (w_lld (dc (.laload, 1)) put_l2))))
theorem m47_144 : M47 144 [l0, l1, l2, l3, l4, .val (.int v), l6] st H Q = M47 146 [l0, l1, l2, l3, l4, .val (.int v), l6] (.int v :: st) H Q := w_x (dc (.iload 5, 2)) rfl
theorem cr47_516 : vR tables_1 dn y47 516 = some (true, y50, prog_1_method_79_code, 6, none, 2, 0) := pR_of (cR_of (by decide +kernel) rc_50 dn_50 dn_47 (sig := ⟨[.long, .int], none⟩) (by decide +kernel) (by decide +kernel) rfl rfl) (by decide +kernel) (by decide +kernel)
theorem m47_146 (a0 : Int64) (a1 : Int32) : M47 146 ls [.int a1, .long a0, .ref b] (put b e s A L B g) Q = M50 0 [.val (.ref b), .val (.long a0), .second, .val (.int a1), .unset, .unset] [] (put b e s A L B g) (fun v H1 => M47 149 ls (v.toList ++ []) H1 Q) := w_virt (as := [.int a1, .long a0]) (rest := []) (a := b) (dc (.invokevirtual 516, 3)) cr47_516 put_o rfl rfl (Nat.le_of_ble_eq_true rfl) (by show 4 ≤ 6; omega) rfl
theorem m47_149 : M47 149 ls st H Q = M47 154 ls st H Q := w_x (dc (.goto 5, 3)) rfl
theorem m47_154 : M47 154 [.val (.ref b), l1, .val (.int v2), l3, l4, l5, l6] st (put b e s A L B g) Q = if (v2 + 1) < (s 49) then M47 165 [.val (.ref b), l1, .val (.int (v2 + 1)), l3, l4, l5, l6] st (put b e s A L B g) Q else M47 187 [.val (.ref b), l1, .val (.int (v2 + 1)), l3, l4, l5, l6] st (put b e s A L B g) Q := (w_iinc (dc (.iinc 2 1, 3)) rfl (by decide) rfl).trans ((w_x (dc (.iload_n 2, 1)) rfl).trans ((w_x (dc (.aload_n 0, 1)) rfl).trans ((w_get (dc (.getfield 450, 3)) gf_450 put_o rfl).trans (w_icmpN (dc (.if_icmp .ge 25, 3)) (i_ge (v2 + 1) (s 49)) rfl))))
theorem m47_187 : M47 187 [l0, l1, .val (.int v), l3, l4, l5, l6] st H Q = M47 188 [l0, l1, .val (.int v), l3, l4, l5, l6] (.int v :: st) H Q := w_x (dc (.iload_n 2, 1)) rfl
theorem m47_188 : M47 188 ls (.int z :: st) H Q = Q (some (.int z)) H := w_iret (dc (.ireturn, 1)) rfl
theorem m48_0 : M48 0 [.val (.ref b), l1] st (put b e s A L B g) Q = if (s 41) < (s 21) then M48 11 [.val (.ref b), l1] st (put b e s A L B g) Q else M48 20 [.val (.ref b), l1] st (put b e s A L B g) Q := (w_x (dc (.aload_n 0, 1)) rfl).trans ((w_get (dc (.getfield 239, 3)) gf_239 put_o rfl).trans ((w_x (dc (.aload_n 0, 1)) rfl).trans ((w_get (dc (.getfield 179, 3)) gf_179 put_o rfl).trans (w_icmpN (dc (.if_icmp .ge 12, 3)) (i_ge (s 41) (s 21)) rfl))))
theorem m48_11 : M48 11 [.val (.ref b), l1] st (put b e s A L B g) Q = if (s 41) < 32 then M48 25 [.val (.ref b), l1] st (put b e s A L B g) Q else M48 20 [.val (.ref b), l1] st (put b e s A L B g) Q := (w_x (dc (.aload_n 0, 1)) rfl).trans ((w_get (dc (.getfield 239, 3)) gf_239 put_o rfl).trans ((w_ki 32 (dc (.bipush 32, 2)) rfl).trans (w_icmp (dc (.if_icmp .lt 8, 3)) (i_lt (s 41) 32) rfl)))
theorem m48_25 : M48 25 [.val (.ref b), .val (.int v1)] st (put b e s A L B g) Q = (inB (s 41) (A 3) ∧ M48 39 [.val (.ref b), .val (.int v1)] st (put b e s (ou A 3 (setA (A 3) (s 41) (v1 &&& 255))) L B g) Q) := (w_x (dc (.aload_n 0, 1)) rfl).trans ((w_get (dc (.getfield 84, 3)) gf_84 put_o rfl).trans ((w_x (dc (.aload_n 0, 1)) rfl).trans ((w_get (dc (.getfield 239, 3)) gf_239 put_o rfl).trans ((w_x (dc (.iload_n 1, 1)) rfl).trans ((w_ki 255 (dc (.sipush 255, 3)) rfl).trans ((w_x (dc (.iand, 1)) rfl).trans (w_ist (dc (.iastore, 1)) rfl put_a3 (Nat.zero_le _) rfl put_w3)))))))
theorem pf48_239 : pfR tables_1 y48.cls y48.name 239 = some ("MacroAssembler", 65, .int) := by decide +kernel
theorem m48_39 : M48 39 [.val (.ref b), l1] st (put b e s A L B g) Q = M48 49 [.val (.ref b), l1] st (put b e (ou s 41 (((s 41) + 1))) A L B g) Q := (w_x (dc (.aload_n 0, 1)) rfl).trans ((w_x (dc (.dup, 1)) rfl).trans ((w_get (dc (.getfield 239, 3)) gf_239 put_o rfl).trans ((w_ki 1 (dc (.iconst 1, 1)) rfl).trans ((w_x (dc (.iadd, 1)) rfl).trans (w_put (dc (.putfield 239, 3)) pf48_239 put_o (Nat.zero_le _) (by show 65 < 90; omega) rfl put_s41)))))
theorem m48_49 : M48 49 ls [] H Q = Q none H := w_vret (dc (.return_, 1)) rfl
theorem m49_0 : M49 0 [.val (.ref b)] st (put b e s A L B g) Q = if (s 34) < 0 then M49 7 [.val (.ref b)] st (put b e s A L B g) Q else M49 44 [.val (.ref b)] st (put b e s A L B g) Q := (w_x (dc (.aload_n 0, 1)) rfl).trans ((w_get (dc (.getfield 344, 3)) gf_344 put_o rfl).trans (w_ifN (dc (.ifCond .ge 40, 3)) (z_ge (s 34)) rfl))
theorem pf49_212 : pfR tables_1 y49.cls y49.name 212 = some ("MacroAssembler", 75, .int) := by decide +kernel
theorem m49_7 : M49 7 [.val (.ref b)] st (put b e s A L B g) Q = M49 17 [.val (.ref b)] st (put b e (ou s 43 (((s 23) + 1))) A L B g) Q := (w_x (dc (.aload_n 0, 1)) rfl).trans ((w_x (dc (.aload_n 0, 1)) rfl).trans ((w_get (dc (.getfield 209, 3)) gf_209 put_o rfl).trans ((w_ki 1 (dc (.iconst 1, 1)) rfl).trans ((w_x (dc (.iadd, 1)) rfl).trans (w_put (dc (.putfield 212, 3)) pf49_212 put_o (Nat.zero_le _) (by show 75 < 90; omega) rfl put_s43)))))
theorem m49_17 : M49 17 [.val (.ref b)] st (put b e s A L B g) Q = if 0 < (s 33) then M49 31 [.val (.ref b)] st (put b e s A L B g) Q else M49 24 [.val (.ref b)] st (put b e s A L B g) Q := (w_x (dc (.aload_n 0, 1)) rfl).trans ((w_get (dc (.getfield 316, 3)) gf_316 put_o rfl).trans (w_if (dc (.ifCond .gt 10, 3)) (z_gt (s 33)) rfl))
theorem m49_24 : M49 24 [.val (.ref b)] st (put b e s A L B g) Q = if (s 37) = 0 then M49 38 [.val (.ref b)] st (put b e s A L B g) Q else M49 31 [.val (.ref b)] st (put b e s A L B g) Q := (w_x (dc (.aload_n 0, 1)) rfl).trans ((w_get (dc (.getfield 325, 3)) gf_325 put_o rfl).trans (w_if (dc (.ifCond .eq 10, 3)) (z_eq (s 37)) rfl))
theorem pf49_203 : pfR tables_1 y49.cls y49.name 203 = some ("MacroAssembler", 74, .boolean) := by decide +kernel
theorem m49_38 : M49 38 [.val (.ref b)] st (put b e s A L B g) Q = M49 43 [.val (.ref b)] st (put b e (ou s 45 (nar .boolean 1)) A L B g) Q := (w_x (dc (.aload_n 0, 1)) rfl).trans ((w_ki 1 (dc (.iconst 1, 1)) rfl).trans (w_put (dc (.putfield 203, 3)) pf49_203 put_o (Nat.zero_le _) (by show 74 < 90; omega) rfl put_s45))
theorem m49_43 : M49 43 ls [] H Q = Q none H := w_vret (dc (.return_, 1)) rfl
theorem m49_44 : M49 44 [.val (.ref b)] st H Q = M49 46 [.val (.ref b)] (.ref b :: .ref b :: st) H Q := (w_x (dc (.aload_n 0, 1)) rfl).trans (w_x (dc (.aload_n 0, 1)) rfl)
theorem cr49_356 : vR tables_1 dn y49 356 = some (true, y35, prog_1_method_43_code, 2, (some .int), 0, 1) := pR_of (cR_of (by decide +kernel) rc_35 dn_35 dn_49 (sig := ⟨[], some .int⟩) (by decide +kernel) (by decide +kernel) rfl rfl) (by decide +kernel) (by decide +kernel)
theorem m49_46 (u0 : Nat) : M49 46 ls [.ref b, .ref u0] (put b e s A L B g) Q = M35 0 [.val (.ref b), .unset] [] (put b e s A L B g) (fun v H1 => M49 49 ls (v.toList ++ [.ref u0]) H1 Q) := w_virt (as := []) (rest := [.ref u0]) (a := b) (dc (.invokevirtual 356, 3)) cr49_356 put_o rfl rfl (Nat.le_of_ble_eq_true rfl) (by show 1 ≤ 2; omega) rfl
theorem m49_49 : M49 49 ls (.int v :: .ref b :: st) (put b e s A L B g) Q = M49 52 ls st (put b e (ou s 43 v) A L B g) Q := w_put (dc (.putfield 212, 3)) pf49_212 put_o (Nat.zero_le _) (by show 75 < 90; omega) rfl put_s43
theorem m49_52 : M49 52 [.val (.ref b)] st (put b e s A L B g) Q = if (s 37) = 0 then M49 59 [.val (.ref b)] st (put b e s A L B g) Q else M49 81 [.val (.ref b)] st (put b e s A L B g) Q := (w_x (dc (.aload_n 0, 1)) rfl).trans ((w_get (dc (.getfield 325, 3)) gf_325 put_o rfl).trans (w_ifN (dc (.ifCond .ne 25, 3)) (z_ne (s 37)) rfl))
theorem m49_59 : M49 59 [.val (.ref b)] st (put b e s A L B g) Q = if 0 < (s 33) then M49 66 [.val (.ref b)] st (put b e s A L B g) Q else M49 81 [.val (.ref b)] st (put b e s A L B g) Q := (w_x (dc (.aload_n 0, 1)) rfl).trans ((w_get (dc (.getfield 316, 3)) gf_316 put_o rfl).trans (w_ifN (dc (.ifCond .le 18, 3)) (z_le (s 33)) rfl))
theorem m49_66 : M49 66 [.val (.ref b)] st (put b e s A L B g) Q = (inB (((s 33) - 1)) (A 9) ∧ M49 77 [.val (.ref b)] (.int (getA (A 9) (((s 33) - 1))) :: st) (put b e s A L B g) Q) := (w_x (dc (.aload_n 0, 1)) rfl).trans ((w_get (dc (.getfield 109, 3)) gf_109 put_o rfl).trans ((w_x (dc (.aload_n 0, 1)) rfl).trans ((w_get (dc (.getfield 316, 3)) gf_316 put_o rfl).trans ((w_ki 1 (dc (.iconst 1, 1)) rfl).trans ((w_x (dc (.isub, 1)) rfl).trans (w_ild (dc (.iaload, 1)) rfl put_a9))))))
theorem m49_77 : M49 77 ls st H Q = M49 78 ls (.int 3 :: st) H Q := w_con (dc (.iconst 3, 1)) rfl (by decide)
theorem m49_78 : M49 78 ls (.int y :: .int x :: st) H Q = if x = y then M49 86 ls st H Q else M49 81 ls st H Q := w_icmp (dc (.if_icmp .eq 8, 3)) (i_eq x y) rfl
theorem pf49_316 : pfR tables_1 y49.cls y49.name 316 = some ("MacroAssembler", 64, .int) := by decide +kernel
theorem m49_86 : M49 86 [.val (.ref b)] st (put b e s A L B g) Q = M49 96 [.val (.ref b)] st (put b e (ou s 33 (((s 33) - 1))) A L B g) Q := (w_x (dc (.aload_n 0, 1)) rfl).trans ((w_x (dc (.dup, 1)) rfl).trans ((w_get (dc (.getfield 316, 3)) gf_316 put_o rfl).trans ((w_ki 1 (dc (.iconst 1, 1)) rfl).trans ((w_x (dc (.isub, 1)) rfl).trans (w_put (dc (.putfield 316, 3)) pf49_316 put_o (Nat.zero_le _) (by show 64 < 90; omega) rfl put_s33)))))
theorem m49_96 : M49 96 [.val (.ref b)] st (put b e s A L B g) Q = (inB (s 33) (A 12) ∧ M49 106 [.val (.ref b)] (.int (getA (A 12) (s 33)) :: .ref b :: st) (put b e s A L B g) Q) := (w_x (dc (.aload_n 0, 1)) rfl).trans ((w_x (dc (.aload_n 0, 1)) rfl).trans ((w_get (dc (.getfield 119, 3)) gf_119 put_o rfl).trans ((w_x (dc (.aload_n 0, 1)) rfl).trans ((w_get (dc (.getfield 316, 3)) gf_316 put_o rfl).trans (w_ild (dc (.iaload, 1)) rfl put_a12)))))
theorem m49_106 : M49 106 [.val (.ref b)] st (put b e s A L B g) Q = (inB (s 33) (A 13) ∧ M49 115 [.val (.ref b)] (.int (getA (A 13) (s 33)) :: st) (put b e s A L B g) Q) := (w_x (dc (.aload_n 0, 1)) rfl).trans ((w_get (dc (.getfield 122, 3)) gf_122 put_o rfl).trans ((w_x (dc (.aload_n 0, 1)) rfl).trans ((w_get (dc (.getfield 316, 3)) gf_316 put_o rfl).trans (w_ild (dc (.iaload, 1)) rfl put_a13))))
theorem cr49_340 : vR tables_1 dn y49 340 = some (true, y8, prog_1_method_40_code, 3, none, 2, 0) := pR_of (cR_of (by decide +kernel) rc_8 dn_8 dn_49 (sig := ⟨[.int, .int], none⟩) (by decide +kernel) (by decide +kernel) rfl rfl) (by decide +kernel) (by decide +kernel)
theorem m49_115 (a0 : Int32) (a1 : Int32) : M49 115 ls [.int a1, .int a0, .ref b] (put b e s A L B g) Q = M8 0 [.val (.ref b), .val (.int a0), .val (.int a1)] [] (put b e s A L B g) (fun v H1 => M49 118 ls (v.toList ++ []) H1 Q) := w_virt (as := [.int a1, .int a0]) (rest := []) (a := b) (dc (.invokevirtual 340, 3)) cr49_340 put_o rfl rfl (Nat.le_of_ble_eq_true rfl) (by show 3 ≤ 3; omega) rfl
theorem m49_118 : M49 118 ls [] H Q = Q none H := w_vret (dc (.return_, 1)) rfl
theorem m50_0 : M50 0 [.val (.ref b), .val (.long w1), l2, l3, l4, l5] st H Q = M50 2 [.val (.ref b), .val (.long w1), l2, l3, l4, l5] (.long w1 :: .ref b :: st) H Q := (w_x (dc (.aload_n 0, 1)) rfl).trans (w_x (dc (.lload_n 1, 1)) rfl)
theorem cr50_432 : vR tables_1 dn y50 432 = some (true, y46, prog_1_method_35_code, 4, (some .int), 1, 0) := pR_of (cR_of (by decide +kernel) rc_46 dn_46 dn_50 (sig := ⟨[.long], some .int⟩) (by decide +kernel) (by decide +kernel) rfl rfl) (by decide +kernel) (by decide +kernel)
theorem m50_2 (a0 : Int64) : M50 2 ls [.long a0, .ref b] (put b e s A L B g) Q = M46 0 [.val (.ref b), .val (.long a0), .second, .unset] [] (put b e s A L B g) (fun v H1 => M50 5 ls (v.toList ++ []) H1 Q) := w_virt (as := [.long a0]) (rest := []) (a := b) (dc (.invokevirtual 432, 3)) cr50_432 put_o rfl rfl (Nat.le_of_ble_eq_true rfl) (by show 3 ≤ 4; omega) rfl
theorem m50_5u : M50 5 [l0, l1, l2, l3, .unset, l5] ((.int v) :: st) H Q = M50 7 [l0, l1, l2, l3, .val (.int v), l5] st H Q := w_st (i := 4) (p := isI) (dc (.istore 4, 2)) rfl rfl rfl rfl rfl rfl
theorem m50_7 : M50 7 [l0, l1, l2, l3, .val (.int v4), l5] st H Q = if v4 < 0 then M50 31 [l0, l1, l2, l3, .val (.int v4), l5] st H Q else M50 12 [l0, l1, l2, l3, .val (.int v4), l5] st H Q := (w_x (dc (.iload 4, 2)) rfl).trans (w_if (dc (.ifCond .lt 22, 3)) (z_lt v4) rfl)
theorem m50_12 : M50 12 [.val (.ref b), l1, l2, .val (.int v3), .val (.int v4), l5] st (put b e s A L B g) Q = (inB v4 (A 4) ∧ M50 25 [.val (.ref b), l1, l2, .val (.int v3), .val (.int v4), l5] (.int (getA (A 4) v4) :: .int v3 :: .int (s 50) :: .ref b :: st) (put b e s A L B g) Q) := (w_x (dc (.aload_n 0, 1)) rfl).trans ((w_x (dc (.dup, 1)) rfl).trans ((w_get (dc (.getfield 465, 3)) gf_465 put_o rfl).trans ((w_x (dc (.iload_n 3, 1)) rfl).trans ((w_x (dc (.aload_n 0, 1)) rfl).trans ((w_get (dc (.getfield 91, 3)) gf_91 put_o rfl).trans ((w_x (dc (.iload 4, 2)) rfl).trans (w_ild (dc (.iaload, 1)) rfl put_a4)))))))
theorem m50_25 : M50 25 ls (.int y :: .int x :: st) H Q = M50 26 ls (.int (x * y) :: st) H Q := w_x (dc (.imul, 1)) rfl
theorem m50_26 : M50 26 ls (.int y :: .int x :: st) H Q = M50 27 ls (.int (x + y) :: st) H Q := w_x (dc (.iadd, 1)) rfl
theorem pf50_465 : pfR tables_1 y50.cls y50.name 465 = some ("MacroAssembler", 86, .int) := by decide +kernel
theorem m50_27 : M50 27 ls (.int v :: .ref b :: st) (put b e s A L B g) Q = M50 30 ls st (put b e (ou s 50 v) A L B g) Q := w_put (dc (.putfield 465, 3)) pf50_465 put_o (Nat.zero_le _) (by show 86 < 90; omega) rfl put_s50
theorem m50_30 : M50 30 ls [] H Q = Q none H := w_vret (dc (.return_, 1)) rfl
theorem pf50_462 : pfR tables_1 y50.cls y50.name 462 = some ("MacroAssembler", 88, .boolean) := by decide +kernel
theorem m50_31 : M50 31 [.val (.ref b), l1, l2, l3, l4, l5] st (put b e s A L B g) Q = M50 36 [.val (.ref b), l1, l2, l3, l4, l5] st (put b e (ou s 52 (nar .boolean 1)) A L B g) Q := (w_x (dc (.aload_n 0, 1)) rfl).trans ((w_ki 1 (dc (.iconst 1, 1)) rfl).trans (w_put (dc (.putfield 462, 3)) pf50_462 put_o (Nat.zero_le _) (by show 88 < 90; omega) rfl put_s52))
theorem m50_36 : M50 36 [l0, l1, l2, l3, l4, .unset] st H Q = M50 39 [l0, l1, l2, l3, l4, .val (.int 0)] st H Q := (w_ki 0 (dc (.iconst 0, 1)) rfl).trans (w_st (i := 5) (p := isI) (dc (.istore 5, 2)) rfl rfl rfl rfl rfl rfl)
theorem m50_39 : M50 39 [.val (.ref b), l1, l2, l3, l4, .val (.int v5)] st (put b e s A L B g) Q = if v5 < (s 51) then M50 48 [.val (.ref b), l1, l2, l3, l4, .val (.int v5)] st (put b e s A L B g) Q else M50 85 [.val (.ref b), l1, l2, l3, l4, .val (.int v5)] st (put b e s A L B g) Q := (w_x (dc (.iload 5, 2)) rfl).trans ((w_x (dc (.aload_n 0, 1)) rfl).trans ((w_get (dc (.getfield 510, 3)) gf_510 put_o rfl).trans (w_icmpN (dc (.if_icmp .ge 40, 3)) (i_ge v5 (s 51)) rfl)))
theorem m50_85 : M50 85 [.val (.ref b), l1, l2, l3, l4, l5] st (put b e s A L B g) Q = if (s 51) < 16 then M50 100 [.val (.ref b), l1, l2, l3, l4, l5] st (put b e s A L B g) Q else M50 94 [.val (.ref b), l1, l2, l3, l4, l5] st (put b e s A L B g) Q := (w_x (dc (.aload_n 0, 1)) rfl).trans ((w_get (dc (.getfield 510, 3)) gf_510 put_o rfl).trans ((w_ki 16 (dc (.bipush 16, 2)) rfl).trans (w_icmp (dc (.if_icmp .lt 9, 3)) (i_lt (s 51) 16) rfl)))
theorem m50_100 : M50 100 [.val (.ref b), .val (.long w1), l2, l3, l4, l5] st (put b e s A L B g) Q = (inB (s 51) (B 3) ∧ M50 110 [.val (.ref b), .val (.long w1), l2, l3, l4, l5] st (put b e s A L (ou B 3 (setA (B 3) (s 51) w1)) g) Q) := (w_x (dc (.aload_n 0, 1)) rfl).trans ((w_get (dc (.getfield 152, 3)) gf_152 put_o rfl).trans ((w_x (dc (.aload_n 0, 1)) rfl).trans ((w_get (dc (.getfield 510, 3)) gf_510 put_o rfl).trans ((w_x (dc (.lload_n 1, 1)) rfl).trans (w_lst (dc (.lastore, 1)) put_l3 (Nat.zero_le _) put_lw3)))))
theorem m50_110 : M50 110 [.val (.ref b), l1, l2, .val (.int v3), l4, l5] st (put b e s A L B g) Q = (inB (s 51) (A 22) ∧ M50 120 [.val (.ref b), l1, l2, .val (.int v3), l4, l5] st (put b e s (ou A 22 (setA (A 22) (s 51) v3)) L B g) Q) := (w_x (dc (.aload_n 0, 1)) rfl).trans ((w_get (dc (.getfield 155, 3)) gf_155 put_o rfl).trans ((w_x (dc (.aload_n 0, 1)) rfl).trans ((w_get (dc (.getfield 510, 3)) gf_510 put_o rfl).trans ((w_x (dc (.iload_n 3, 1)) rfl).trans (w_ist (dc (.iastore, 1)) rfl put_a22 (Nat.zero_le _) rfl put_w22)))))
theorem pf50_510 : pfR tables_1 y50.cls y50.name 510 = some ("MacroAssembler", 87, .int) := by decide +kernel
theorem m50_120 : M50 120 [.val (.ref b), l1, l2, l3, l4, l5] st (put b e s A L B g) Q = M50 130 [.val (.ref b), l1, l2, l3, l4, l5] st (put b e (ou s 51 (((s 51) + 1))) A L B g) Q := (w_x (dc (.aload_n 0, 1)) rfl).trans ((w_x (dc (.dup, 1)) rfl).trans ((w_get (dc (.getfield 510, 3)) gf_510 put_o rfl).trans ((w_ki 1 (dc (.iconst 1, 1)) rfl).trans ((w_x (dc (.iadd, 1)) rfl).trans (w_put (dc (.putfield 510, 3)) pf50_510 put_o (Nat.zero_le _) (by show 87 < 90; omega) rfl put_s51)))))
theorem m50_130 : M50 130 ls [] H Q = Q none H := w_vret (dc (.return_, 1)) rfl
theorem m51_0 : M51 0 [.val (.ref b), l1, l2] st (put b e s A L B g) Q = if (s 54) < 32 then M51 14 [.val (.ref b), l1, l2] st (put b e s A L B g) Q else M51 9 [.val (.ref b), l1, l2] st (put b e s A L B g) Q := (w_x (dc (.aload_n 0, 1)) rfl).trans ((w_get (dc (.getfield 322, 3)) gf_322 put_o rfl).trans ((w_ki 32 (dc (.bipush 32, 2)) rfl).trans (w_icmp (dc (.if_icmp .lt 8, 3)) (i_lt (s 54) 32) rfl)))
theorem m51_14 : M51 14 [.val (.ref b), .val (.int v1), l2] st (put b e s A L B g) Q = (inB (s 54) (A 23) ∧ M51 24 [.val (.ref b), .val (.int v1), l2] st (put b e s (ou A 23 (setA (A 23) (s 54) v1)) L B g) Q) := (w_x (dc (.aload_n 0, 1)) rfl).trans ((w_get (dc (.getfield 158, 3)) gf_158 put_o rfl).trans ((w_x (dc (.aload_n 0, 1)) rfl).trans ((w_get (dc (.getfield 322, 3)) gf_322 put_o rfl).trans ((w_x (dc (.iload_n 1, 1)) rfl).trans (w_ist (dc (.iastore, 1)) rfl put_a23 (Nat.zero_le _) rfl put_w23)))))
theorem m51_24 : M51 24 [.val (.ref b), l1, l2] st (put b e s A L B g) Q = (inB (s 54) (A 24) ∧ M51 37 [.val (.ref b), l1, l2] st (put b e s (ou A 24 (setA (A 24) (s 54) (s 43))) L B g) Q) := (w_x (dc (.aload_n 0, 1)) rfl).trans ((w_get (dc (.getfield 161, 3)) gf_161 put_o rfl).trans ((w_x (dc (.aload_n 0, 1)) rfl).trans ((w_get (dc (.getfield 322, 3)) gf_322 put_o rfl).trans ((w_x (dc (.aload_n 0, 1)) rfl).trans ((w_get (dc (.getfield 212, 3)) gf_212 put_o rfl).trans (w_ist (dc (.iastore, 1)) rfl put_a24 (Nat.zero_le _) rfl put_w24))))))
theorem m51_37 : M51 37 [.val (.ref b), l1, l2] st (put b e s A L B g) Q = (inB (s 54) (A 25) ∧ M51 50 [.val (.ref b), l1, l2] st (put b e s (ou A 25 (setA (A 25) (s 54) (s 50))) L B g) Q) := (w_x (dc (.aload_n 0, 1)) rfl).trans ((w_get (dc (.getfield 164, 3)) gf_164 put_o rfl).trans ((w_x (dc (.aload_n 0, 1)) rfl).trans ((w_get (dc (.getfield 322, 3)) gf_322 put_o rfl).trans ((w_x (dc (.aload_n 0, 1)) rfl).trans ((w_get (dc (.getfield 465, 3)) gf_465 put_o rfl).trans (w_ist (dc (.iastore, 1)) rfl put_a25 (Nat.zero_le _) rfl put_w25))))))
theorem m51_50 : M51 50 [.val (.ref b), l1, l2] st (put b e s A L B g) Q = (inB (s 54) (A 27) ∧ M51 63 [.val (.ref b), l1, l2] st (put b e s (ou A 27 (setA (A 27) (s 54) (nar .boolean (s 53)))) L B g) Q) := (w_x (dc (.aload_n 0, 1)) rfl).trans ((w_get (dc (.getfield 170, 3)) gf_170 put_o rfl).trans ((w_x (dc (.aload_n 0, 1)) rfl).trans ((w_get (dc (.getfield 322, 3)) gf_322 put_o rfl).trans ((w_x (dc (.aload_n 0, 1)) rfl).trans ((w_get (dc (.getfield 513, 3)) gf_513 put_o rfl).trans (w_ist (dc (.bastore, 1)) rfl put_a27 (Nat.zero_le _) rfl put_w27))))))
theorem m51_63 : M51 63 [.val (.ref b), l1, l2] st (put b e s A L B g) Q = (inB (s 54) (A 26) ∧ M51 76 [.val (.ref b), l1, l2] st (put b e s (ou A 26 (setA (A 26) (s 54) (s 51))) L B g) Q) := (w_x (dc (.aload_n 0, 1)) rfl).trans ((w_get (dc (.getfield 167, 3)) gf_167 put_o rfl).trans ((w_x (dc (.aload_n 0, 1)) rfl).trans ((w_get (dc (.getfield 322, 3)) gf_322 put_o rfl).trans ((w_x (dc (.aload_n 0, 1)) rfl).trans ((w_get (dc (.getfield 510, 3)) gf_510 put_o rfl).trans (w_ist (dc (.iastore, 1)) rfl put_a26 (Nat.zero_le _) rfl put_w26))))))
theorem m51_76 : M51 76 [l0, l1, .unset] st H Q = M51 78 [l0, l1, .val (.int 0)] st H Q := (w_ki 0 (dc (.iconst 0, 1)) rfl).trans (w_st (i := 2) (p := isI) (dc (.istore_n 2, 1)) rfl rfl rfl rfl rfl rfl)
theorem m51_78 : M51 78 [.val (.ref b), l1, .val (.int v2)] st (put b e s A L B g) Q = if v2 < (s 51) then M51 86 [.val (.ref b), l1, .val (.int v2)] st (put b e s A L B g) Q else M51 138 [.val (.ref b), l1, .val (.int v2)] st (put b e s A L B g) Q := (w_x (dc (.iload_n 2, 1)) rfl).trans ((w_x (dc (.aload_n 0, 1)) rfl).trans ((w_get (dc (.getfield 510, 3)) gf_510 put_o rfl).trans (w_icmpN (dc (.if_icmp .ge 55, 3)) (i_ge v2 (s 51)) rfl)))
theorem m51_86 : M51 86 [l0, l1, .val (.int v2)] st H Q = if v2 < 16 then M51 92 [l0, l1, .val (.int v2)] st H Q else M51 138 [l0, l1, .val (.int v2)] st H Q := (w_x (dc (.iload_n 2, 1)) rfl).trans ((w_ki 16 (dc (.bipush 16, 2)) rfl).trans (w_icmpN (dc (.if_icmp .ge 49, 3)) (i_ge v2 16) rfl))
theorem m51_92 : M51 92 [.val (.ref b), l1, .val (.int v2)] st (put b e s A L B g) Q = (inB v2 (B 3) ∧ M51 111 [.val (.ref b), l1, .val (.int v2)] (.long (getL (B 3) v2) :: .int ((((s 54) * 16)) + v2) :: .ref (b + 33) :: st) (put b e s A L B g) Q) := (w_x (dc (.aload_n 0, 1)) rfl).trans ((w_get (dc (.getfield 173, 3)) gf_173 put_o rfl).trans ((w_x (dc (.aload_n 0, 1)) rfl).trans ((w_get (dc (.getfield 322, 3)) gf_322 put_o rfl).trans ((w_ki 16 (dc (.bipush 16, 2)) rfl).trans ((w_x (dc (.imul, 1)) rfl).trans ((w_x (dc (.iload_n 2, 1)) rfl).trans ((w_x (dc (.iadd, 1)) rfl).trans ((w_x (dc (.aload_n 0, 1)) rfl).trans ((w_get (dc (.getfield 152, 3)) gf_152 put_o rfl).trans ((w_x (dc (.iload_n 2, 1)) rfl).trans (w_lld (dc (.laload, 1)) put_l3)))))))))))
theorem m51_111  : M51 111 ls (.long J1 :: .int j :: .ref (b + 33) :: st) (put b e s A L B g) Q = (inB j (B 4) ∧ M51 112 ls st (put b e s A L (ou B 4 (setA (B 4) j J1)) g) Q) := w_lst (dc (.lastore, 1)) put_l4 (Nat.zero_le _) put_lw4
theorem m51_112 : M51 112 [.val (.ref b), l1, .val (.int v2)] st (put b e s A L B g) Q = (inB v2 (A 22) ∧ M51 131 [.val (.ref b), l1, .val (.int v2)] (.int (getA (A 22) v2) :: .int ((((s 54) * 16)) + v2) :: .ref (b + 34) :: st) (put b e s A L B g) Q) := (w_x (dc (.aload_n 0, 1)) rfl).trans ((w_get (dc (.getfield 176, 3)) gf_176 put_o rfl).trans ((w_x (dc (.aload_n 0, 1)) rfl).trans ((w_get (dc (.getfield 322, 3)) gf_322 put_o rfl).trans ((w_ki 16 (dc (.bipush 16, 2)) rfl).trans ((w_x (dc (.imul, 1)) rfl).trans ((w_x (dc (.iload_n 2, 1)) rfl).trans ((w_x (dc (.iadd, 1)) rfl).trans ((w_x (dc (.aload_n 0, 1)) rfl).trans ((w_get (dc (.getfield 155, 3)) gf_155 put_o rfl).trans ((w_x (dc (.iload_n 2, 1)) rfl).trans (w_ild (dc (.iaload, 1)) rfl put_a22)))))))))))
theorem m51_131  : M51 131 ls (.int v :: .int j :: .ref (b + 34) :: st) (put b e s A L B g) Q = (inB j (A 28) ∧ M51 132 ls st (put b e s (ou A 28 (setA (A 28) j v)) L B g) Q) := w_ist (dc (.iastore, 1)) rfl put_a28 (Nat.zero_le _) rfl put_w28
theorem m51_132 : M51 132 [l0, l1, .val (.int v2)] st H Q = M51 78 [l0, l1, .val (.int (v2 + 1))] st H Q := (w_iinc (dc (.iinc 2 1, 3)) rfl (by decide) rfl).trans (w_x (dc (.goto (-57), 3)) rfl)
theorem pf51_322 : pfR tables_1 y51.cls y51.name 322 = some ("MacroAssembler", 68, .int) := by decide +kernel
theorem m51_138 : M51 138 [.val (.ref b), l1, l2] st (put b e s A L B g) Q = M51 148 [.val (.ref b), l1, l2] st (put b e (ou s 54 (((s 54) + 1))) A L B g) Q := (w_x (dc (.aload_n 0, 1)) rfl).trans ((w_x (dc (.dup, 1)) rfl).trans ((w_get (dc (.getfield 322, 3)) gf_322 put_o rfl).trans ((w_ki 1 (dc (.iconst 1, 1)) rfl).trans ((w_x (dc (.iadd, 1)) rfl).trans (w_put (dc (.putfield 322, 3)) pf51_322 put_o (Nat.zero_le _) (by show 68 < 90; omega) rfl put_s54)))))
theorem m51_148 : M51 148 ls [] H Q = Q none H := w_vret (dc (.return_, 1)) rfl
theorem m52_0 : M52 0 [.val (.ref b), l1] st (put b e s A L B g) Q = if (s 49) = 1 then M52 13 [.val (.ref b), l1] st (put b e s A L B g) Q else M52 8 [.val (.ref b), l1] st (put b e s A L B g) Q := (w_x (dc (.aload_n 0, 1)) rfl).trans ((w_get (dc (.getfield 450, 3)) gf_450 put_o rfl).trans ((w_ki 1 (dc (.iconst 1, 1)) rfl).trans (w_icmp (dc (.if_icmp .eq 8, 3)) (i_eq (s 49) 1) rfl)))
theorem m52_13 : M52 13 [.val (.ref r), l1] st H Q = M52 14 [.val (.ref r), l1] (.ref r :: st) H Q := w_x (dc (.aload_n 0, 1)) rfl
theorem cr52_403 : vR tables_1 dn y52 403 = some (true, y30, prog_1_method_55_code, 1, none, 0, 0) := pR_of (cR_of (by decide +kernel) rc_30 dn_30 dn_52 (sig := ⟨[], none⟩) (by decide +kernel) (by decide +kernel) rfl rfl) (by decide +kernel) (by decide +kernel)
theorem m52_14 : M52 14 ls [.ref b] (put b e s A L B g) Q = M30 0 [.val (.ref b)] [] (put b e s A L B g) (fun v H1 => M52 17 ls (v.toList ++ []) H1 Q) := w_virt (as := []) (rest := []) (a := b) (dc (.invokevirtual 403, 3)) cr52_403 put_o rfl rfl (Nat.le_of_ble_eq_true rfl) (by show 1 ≤ 1; omega) rfl
theorem m52_17 : M52 17 [.val (.ref b), l1] st (put b e s A L B g) Q = if (s 44) = 0 then M52 25 [.val (.ref b), l1] st (put b e s A L B g) Q else M52 24 [.val (.ref b), l1] st (put b e s A L B g) Q := (w_x (dc (.aload_n 0, 1)) rfl).trans ((w_get (dc (.getfield 199, 3)) gf_199 put_o rfl).trans (w_if (dc (.ifCond .eq 4, 3)) (z_eq (s 44)) rfl))
theorem m52_25 : M52 25 [.val (.ref b), .val (.int v1)] st H Q = M52 27 [.val (.ref b), .val (.int v1)] (.int v1 :: .ref b :: st) H Q := (w_x (dc (.aload_n 0, 1)) rfl).trans (w_x (dc (.iload_n 1, 1)) rfl)
theorem cr52_456 : vR tables_1 dn y52 456 = some (true, y48, prog_1_method_57_code, 2, none, 1, 61) := pR_of (cR_of (by decide +kernel) rc_48 dn_48 dn_52 (sig := ⟨[.int], none⟩) (by decide +kernel) (by decide +kernel) rfl rfl) (by decide +kernel) (by decide +kernel)
theorem m52_27 (a0 : Int32) : M52 27 ls [.int a0, .ref b] (put b e s A L B g) Q = M48 0 [.val (.ref b), .val (.int a0)] [] (put b e s A L B g) (fun v H1 => M52 30 ls (v.toList ++ []) H1 Q) := w_virt (as := [.int a0]) (rest := []) (a := b) (dc (.invokevirtual 456, 3)) cr52_456 put_o rfl rfl (Nat.le_of_ble_eq_true rfl) (by show 2 ≤ 2; omega) rfl
theorem m52_30 : M52 30 ls [] H Q = Q none H := w_vret (dc (.return_, 1)) rfl
theorem m53_0 : M53 0 [l0, .unset, l2, l3, l4] st H Q = M53 2 [l0, .val (.int 0), l2, l3, l4] st H Q := (w_ki 0 (dc (.iconst 0, 1)) rfl).trans (w_st (i := 1) (p := isI) (dc (.istore_n 1, 1)) rfl rfl rfl rfl rfl rfl)
theorem m53_2 : M53 2 [.val (.ref b), .val (.int v1), l2, l3, l4] st (put b e s A L B g) Q = if v1 < (s 54) then M53 10 [.val (.ref b), .val (.int v1), l2, l3, l4] st (put b e s A L B g) Q else M53 162 [.val (.ref b), .val (.int v1), l2, l3, l4] st (put b e s A L B g) Q := (w_x (dc (.iload_n 1, 1)) rfl).trans ((w_x (dc (.aload_n 0, 1)) rfl).trans ((w_get (dc (.getfield 322, 3)) gf_322 put_o rfl).trans (w_icmpN (dc (.if_icmp .ge 155, 3)) (i_ge v1 (s 54)) rfl)))
theorem m53_10 : M53 10 [l0, .val (.int v1), l2, l3, l4] st H Q = if v1 < 32 then M53 16 [l0, .val (.int v1), l2, l3, l4] st H Q else M53 162 [l0, .val (.int v1), l2, l3, l4] st H Q := (w_x (dc (.iload_n 1, 1)) rfl).trans ((w_ki 32 (dc (.bipush 32, 2)) rfl).trans (w_icmpN (dc (.if_icmp .ge 149, 3)) (i_ge v1 32) rfl))
theorem m53_16 : M53 16 [.val (.ref b), .val (.int v1), l2, l3, l4] st (put b e s A L B g) Q = (inB v1 (A 24) ∧ M53 23 [.val (.ref b), .val (.int v1), l2, l3, l4] (.int (getA (A 24) v1) :: .ref b :: st) (put b e s A L B g) Q) := (w_x (dc (.aload_n 0, 1)) rfl).trans ((w_x (dc (.aload_n 0, 1)) rfl).trans ((w_get (dc (.getfield 161, 3)) gf_161 put_o rfl).trans ((w_x (dc (.iload_n 1, 1)) rfl).trans (w_ild (dc (.iaload, 1)) rfl put_a24))))
theorem pf53_212 : pfR tables_1 y53.cls y53.name 212 = some ("MacroAssembler", 75, .int) := by decide +kernel
theorem m53_23 : M53 23 ls (.int v :: .ref b :: st) (put b e s A L B g) Q = M53 26 ls st (put b e (ou s 43 v) A L B g) Q := w_put (dc (.putfield 212, 3)) pf53_212 put_o (Nat.zero_le _) (by show 75 < 90; omega) rfl put_s43
theorem m53_26 : M53 26 [.val (.ref b), .val (.int v1), l2, l3, l4] st (put b e s A L B g) Q = (inB v1 (A 27) ∧ M53 32 [.val (.ref b), .val (.int v1), l2, l3, l4] (.int (getA (A 27) v1) :: st) (put b e s A L B g) Q) := (w_x (dc (.aload_n 0, 1)) rfl).trans ((w_get (dc (.getfield 170, 3)) gf_170 put_o rfl).trans ((w_x (dc (.iload_n 1, 1)) rfl).trans (w_ild (dc (.baload, 1)) rfl put_a27)))
theorem m53_32 : M53 32 ls (.int x :: st) H Q = if x = 0 then M53 40 ls st H Q else M53 35 ls st H Q := w_if (dc (.ifCond .eq 8, 3)) (z_eq x) rfl
theorem m53_40 : M53 40 [.val (.ref b), .val (.int v1), l2, l3, l4] st (put b e s A L B g) Q = (inB v1 (A 25) ∧ M53 46 [.val (.ref b), .val (.int v1), l2, l3, l4] (.int (getA (A 25) v1) :: st) (put b e s A L B g) Q) := (w_x (dc (.aload_n 0, 1)) rfl).trans ((w_get (dc (.getfield 164, 3)) gf_164 put_o rfl).trans ((w_x (dc (.iload_n 1, 1)) rfl).trans (w_ild (dc (.iaload, 1)) rfl put_a25)))
theorem m53_46u : M53 46 [l0, l1, .unset, l3, l4] ((.int v) :: st) H Q = M53 47 [l0, l1, .val (.int v), l3, l4] st H Q := w_st (i := 2) (p := isI) (dc (.istore_n 2, 1)) rfl rfl rfl rfl rfl rfl
theorem m53_46i : M53 46 [l0, l1, .val (.int z), l3, l4] ((.int v) :: st) H Q = M53 47 [l0, l1, .val (.int v), l3, l4] st H Q := w_st (i := 2) (p := isI) (dc (.istore_n 2, 1)) rfl rfl rfl rfl rfl rfl
theorem m53_47 : M53 47 ls st H Q = M53 48 ls (.int 0 :: st) H Q := w_con (dc (.iconst 0, 1)) rfl (by decide)
theorem m53_48u : M53 48 [l0, l1, l2, .unset, l4] ((.int v) :: st) H Q = M53 49 [l0, l1, l2, .val (.int v), l4] st H Q := w_st (i := 3) (p := isI) (dc (.istore_n 3, 1)) rfl rfl rfl rfl rfl rfl
theorem m53_48i : M53 48 [l0, l1, l2, .val (.int z), l4] ((.int v) :: st) H Q = M53 49 [l0, l1, l2, .val (.int v), l4] st H Q := w_st (i := 3) (p := isI) (dc (.istore_n 3, 1)) rfl rfl rfl rfl rfl rfl
theorem m53_49 : M53 49 [.val (.ref b), .val (.int v1), l2, .val (.int v3), l4] st (put b e s A L B g) Q = (inB v1 (A 26) ∧ M53 56 [.val (.ref b), .val (.int v1), l2, .val (.int v3), l4] (.int (getA (A 26) v1) :: .int v3 :: st) (put b e s A L B g) Q) := (w_x (dc (.iload_n 3, 1)) rfl).trans ((w_x (dc (.aload_n 0, 1)) rfl).trans ((w_get (dc (.getfield 167, 3)) gf_167 put_o rfl).trans ((w_x (dc (.iload_n 1, 1)) rfl).trans (w_ild (dc (.iaload, 1)) rfl put_a26))))
theorem m53_56 : M53 56 ls (.int y :: .int x :: st) H Q = if x < y then M53 59 ls st H Q else M53 120 ls st H Q := w_icmpN (dc (.if_icmp .ge 64, 3)) (i_ge x y) rfl
theorem m53_59 : M53 59 [l0, l1, l2, .val (.int v3), l4] st H Q = if v3 < 16 then M53 65 [l0, l1, l2, .val (.int v3), l4] st H Q else M53 120 [l0, l1, l2, .val (.int v3), l4] st H Q := (w_x (dc (.iload_n 3, 1)) rfl).trans ((w_ki 16 (dc (.bipush 16, 2)) rfl).trans (w_icmpN (dc (.if_icmp .ge 58, 3)) (i_ge v3 16) rfl))
theorem m53_65 : M53 65 [.val (.ref b), .val (.int v1), l2, .val (.int v3), l4] st (put b e s A L B g) Q = (inB (((v1 * 16) + v3)) (B 4) ∧ M53 77 [.val (.ref b), .val (.int v1), l2, .val (.int v3), l4] (.long (getL (B 4) (((v1 * 16) + v3))) :: .ref b :: st) (put b e s A L B g) Q) := (w_x (dc (.aload_n 0, 1)) rfl).trans ((w_x (dc (.aload_n 0, 1)) rfl).trans ((w_get (dc (.getfield 173, 3)) gf_173 put_o rfl).trans ((w_x (dc (.iload_n 1, 1)) rfl).trans ((w_ki 16 (dc (.bipush 16, 2)) rfl).trans ((w_x (dc (.imul, 1)) rfl).trans ((w_x (dc (.iload_n 3, 1)) rfl).trans ((w_x (dc (.iadd, 1)) rfl).trans (w_lld (dc (.laload, 1)) put_l4))))))))
theorem cr53_432 : vR tables_1 dn y53 432 = some (true, y46, prog_1_method_35_code, 4, (some .int), 1, 0) := pR_of (cR_of (by decide +kernel) rc_46 dn_46 dn_53 (sig := ⟨[.long], some .int⟩) (by decide +kernel) (by decide +kernel) rfl rfl) (by decide +kernel) (by decide +kernel)
theorem m53_77 (a0 : Int64) : M53 77 ls [.long a0, .ref b] (put b e s A L B g) Q = M46 0 [.val (.ref b), .val (.long a0), .second, .unset] [] (put b e s A L B g) (fun v H1 => M53 80 ls (v.toList ++ []) H1 Q) := w_virt (as := [.long a0]) (rest := []) (a := b) (dc (.invokevirtual 432, 3)) cr53_432 put_o rfl rfl (Nat.le_of_ble_eq_true rfl) (by show 3 ≤ 4; omega) rfl
theorem m53_80u : M53 80 [l0, l1, l2, l3, .unset] ((.int v) :: st) H Q = M53 82 [l0, l1, l2, l3, .val (.int v)] st H Q := w_st (i := 4) (p := isI) (dc (.istore 4, 2)) rfl rfl rfl rfl rfl rfl
theorem m53_80i : M53 80 [l0, l1, l2, l3, .val (.int z)] ((.int v) :: st) H Q = M53 82 [l0, l1, l2, l3, .val (.int v)] st H Q := w_st (i := 4) (p := isI) (dc (.istore 4, 2)) rfl rfl rfl rfl rfl rfl
theorem m53_82 : M53 82 [l0, l1, l2, l3, .val (.int v4)] st H Q = if v4 < 0 then M53 87 [l0, l1, l2, l3, .val (.int v4)] st H Q else M53 92 [l0, l1, l2, l3, .val (.int v4)] st H Q := (w_x (dc (.iload 4, 2)) rfl).trans (w_ifN (dc (.ifCond .ge 8, 3)) (z_ge v4) rfl)
theorem m53_92 : M53 92 [.val (.ref b), .val (.int v1), .val (.int v2), .val (.int v3), l4] st (put b e s A L B g) Q = (inB (((v1 * 16) + v3)) (A 28) ∧ M53 104 [.val (.ref b), .val (.int v1), .val (.int v2), .val (.int v3), l4] (.int (getA (A 28) (((v1 * 16) + v3))) :: .int v2 :: st) (put b e s A L B g) Q) := (w_x (dc (.iload_n 2, 1)) rfl).trans ((w_x (dc (.aload_n 0, 1)) rfl).trans ((w_get (dc (.getfield 176, 3)) gf_176 put_o rfl).trans ((w_x (dc (.iload_n 1, 1)) rfl).trans ((w_ki 16 (dc (.bipush 16, 2)) rfl).trans ((w_x (dc (.imul, 1)) rfl).trans ((w_x (dc (.iload_n 3, 1)) rfl).trans ((w_x (dc (.iadd, 1)) rfl).trans (w_ild (dc (.iaload, 1)) rfl put_a28))))))))
theorem m53_104 : M53 104 [.val (.ref b), l1, l2, l3, .val (.int v4)] st (put b e s A L B g) Q = (inB v4 (A 4) ∧ M53 111 [.val (.ref b), l1, l2, l3, .val (.int v4)] (.int (getA (A 4) v4) :: st) (put b e s A L B g) Q) := (w_x (dc (.aload_n 0, 1)) rfl).trans ((w_get (dc (.getfield 91, 3)) gf_91 put_o rfl).trans ((w_x (dc (.iload 4, 2)) rfl).trans (w_ild (dc (.iaload, 1)) rfl put_a4)))
theorem m53_111 : M53 111 ls (.int y :: .int x :: st) H Q = M53 112 ls (.int (x * y) :: st) H Q := w_x (dc (.imul, 1)) rfl
theorem m53_112 : M53 112 ls (.int y :: .int x :: st) H Q = M53 113 ls (.int (x + y) :: st) H Q := w_x (dc (.iadd, 1)) rfl
theorem m53_113i : M53 113 [l0, l1, .val (.int z), l3, l4] ((.int v) :: st) H Q = M53 114 [l0, l1, .val (.int v), l3, l4] st H Q := w_st (i := 2) (p := isI) (dc (.istore_n 2, 1)) rfl rfl rfl rfl rfl rfl
theorem m53_114 : M53 114 [l0, l1, l2, .val (.int v3), l4] st H Q = M53 49 [l0, l1, l2, .val (.int (v3 + 1)), l4] st H Q := (w_iinc (dc (.iinc 3 1, 3)) rfl (by decide) rfl).trans (w_x (dc (.goto (-68), 3)) rfl)
theorem m53_120 : M53 120 [.val (.ref b), .val (.int v1), l2, l3, l4] st (put b e s A L B g) Q = (inB v1 (A 23) ∧ M53 126 [.val (.ref b), .val (.int v1), l2, l3, l4] (.int (getA (A 23) v1) :: st) (put b e s A L B g) Q) := (w_x (dc (.aload_n 0, 1)) rfl).trans ((w_get (dc (.getfield 158, 3)) gf_158 put_o rfl).trans ((w_x (dc (.iload_n 1, 1)) rfl).trans (w_ild (dc (.iaload, 1)) rfl put_a23)))
theorem m53_126 : M53 126 ls (.int x :: st) H Q = if x < 0 then M53 156 ls st H Q else M53 129 ls st H Q := w_if (dc (.ifCond .lt 30, 3)) (z_lt x) rfl
theorem m53_129 : M53 129 [.val (.ref b), .val (.int v1), l2, l3, l4] st (put b e s A L B g) Q = (inB v1 (A 23) ∧ M53 135 [.val (.ref b), .val (.int v1), l2, l3, l4] (.int (getA (A 23) v1) :: st) (put b e s A L B g) Q) := (w_x (dc (.aload_n 0, 1)) rfl).trans ((w_get (dc (.getfield 158, 3)) gf_158 put_o rfl).trans ((w_x (dc (.iload_n 1, 1)) rfl).trans (w_ild (dc (.iaload, 1)) rfl put_a23)))
theorem m53_135 : M53 135 ls st H Q = M53 137 ls (.int 32 :: st) H Q := w_con (dc (.bipush 32, 2)) rfl (by decide)
theorem m53_137 : M53 137 ls (.int y :: .int x :: st) H Q = if x < y then M53 140 ls st H Q else M53 156 ls st H Q := w_icmpN (dc (.if_icmp .ge 19, 3)) (i_ge x y) rfl
theorem m53_140 : M53 140 [.val (.ref b), .val (.int v1), l2, l3, l4] st (put b e s A L B g) Q = (inB v1 (A 23) ∧ M53 150 [.val (.ref b), .val (.int v1), l2, l3, l4] (.int (getA (A 23) v1) :: .ref (b + 4) :: st) (put b e s A L B g) Q) := (w_x (dc (.aload_n 0, 1)) rfl).trans ((w_get (dc (.getfield 84, 3)) gf_84 put_o rfl).trans ((w_x (dc (.aload_n 0, 1)) rfl).trans ((w_get (dc (.getfield 158, 3)) gf_158 put_o rfl).trans ((w_x (dc (.iload_n 1, 1)) rfl).trans (w_ild (dc (.iaload, 1)) rfl put_a23)))))
theorem m53_150 : M53 150 [l0, l1, .val (.int v2), l3, l4] st H Q = M53 155 [l0, l1, .val (.int v2), l3, l4] (.int (v2 &&& 255) :: st) H Q := (w_x (dc (.iload_n 2, 1)) rfl).trans ((w_ki 255 (dc (.sipush 255, 3)) rfl).trans (w_x (dc (.iand, 1)) rfl))
theorem m53_155  : M53 155 ls (.int v :: .int j :: .ref (b + 4) :: st) (put b e s A L B g) Q = (inB j (A 3) ∧ M53 156 ls st (put b e s (ou A 3 (setA (A 3) j v)) L B g) Q) := w_ist (dc (.iastore, 1)) rfl put_a3 (Nat.zero_le _) rfl put_w3
theorem m53_156 : M53 156 [l0, .val (.int v1), l2, l3, l4] st H Q = M53 2 [l0, .val (.int (v1 + 1)), l2, l3, l4] st H Q := (w_iinc (dc (.iinc 1 1, 3)) rfl (by decide) rfl).trans (w_x (dc (.goto (-157), 3)) rfl)
theorem m53_162 : M53 162 ls [] H Q = Q none H := w_vret (dc (.return_, 1)) rfl
theorem pf54_236 : pfR tables_1 y54.cls y54.name 236 = some ("MacroAssembler", 62, .int) := by decide +kernel
theorem m54_0 : M54 0 [.val (.ref b), l1, l2] st (put b e s A L B g) Q = M54 5 [.val (.ref b), l1, l2] st (put b e (ou s 29 0) A L B g) Q := (w_x (dc (.aload_n 0, 1)) rfl).trans ((w_ki 0 (dc (.iconst 0, 1)) rfl).trans (w_put (dc (.putfield 236, 3)) pf54_236 put_o (Nat.zero_le _) (by show 62 < 90; omega) rfl put_s29))
theorem m54_5 : M54 5 [l0, .unset, l2] st H Q = M54 7 [l0, .val (.int 0), l2] st H Q := (w_ki 0 (dc (.iconst 0, 1)) rfl).trans (w_st (i := 1) (p := isI) (dc (.istore_n 1, 1)) rfl rfl rfl rfl rfl rfl)
theorem m54_7 : M54 7 [.val (.ref b), .val (.int v1), l2] st (put b e s A L B g) Q = if v1 < (s 28) then M54 15 [.val (.ref b), .val (.int v1), l2] st (put b e s A L B g) Q else M54 71 [.val (.ref b), .val (.int v1), l2] st (put b e s A L B g) Q := (w_x (dc (.iload_n 1, 1)) rfl).trans ((w_x (dc (.aload_n 0, 1)) rfl).trans ((w_get (dc (.getfield 230, 3)) gf_230 put_o rfl).trans (w_icmpN (dc (.if_icmp .ge 59, 3)) (i_ge v1 (s 28)) rfl)))
theorem m54_15 : M54 15 [l0, .val (.int v1), l2] st H Q = if v1 < 16 then M54 21 [l0, .val (.int v1), l2] st H Q else M54 71 [l0, .val (.int v1), l2] st H Q := (w_x (dc (.iload_n 1, 1)) rfl).trans ((w_ki 16 (dc (.bipush 16, 2)) rfl).trans (w_icmpN (dc (.if_icmp .ge 53, 3)) (i_ge v1 16) rfl))
theorem m54_21 : M54 21 [.val (.ref b), .val (.int v1), l2] st (put b e s A L B g) Q = (inB v1 (B 0) ∧ M54 28 [.val (.ref b), .val (.int v1), l2] (.long (getL (B 0) v1) :: .ref b :: st) (put b e s A L B g) Q) := (w_x (dc (.aload_n 0, 1)) rfl).trans ((w_x (dc (.aload_n 0, 1)) rfl).trans ((w_get (dc (.getfield 87, 3)) gf_87 put_o rfl).trans ((w_x (dc (.iload_n 1, 1)) rfl).trans (w_lld (dc (.laload, 1)) put_l0))))
theorem cr54_522 : vR tables_1 dn y54 522 = some (true, y55, prog_1_method_84_code, 6, none, 1, 29) := pR_of (cR_of (by decide +kernel) rc_55 dn_55 dn_54 (sig := ⟨[.long], none⟩) (by decide +kernel) (by decide +kernel) rfl rfl) (by decide +kernel) (by decide +kernel)
theorem m54_28 (a0 : Int64) : M54 28 ls [.long a0, .ref b] (put b e s A L B g) Q = M55 0 [.val (.ref b), .val (.long a0), .second, .unset, .unset, .unset] [] (put b e s A L B g) (fun v H1 => M54 31 ls (v.toList ++ []) H1 Q) := w_virt (as := [.long a0]) (rest := []) (a := b) (dc (.invokevirtual 522, 3)) cr54_522 put_o rfl rfl (Nat.le_of_ble_eq_true rfl) (by show 3 ≤ 6; omega) rfl
theorem m54_31 : M54 31 [.val (.ref b), l1, l2] st H Q = M54 34 [.val (.ref b), l1, l2] (.int 32 :: .ref b :: st) H Q := (w_x (dc (.aload_n 0, 1)) rfl).trans (w_ki 32 (dc (.bipush 32, 2)) rfl)
theorem cr54_519 : vR tables_1 dn y54 519 = some (true, y58, prog_1_method_83_code, 2, none, 1, 51) := pR_of (cR_of (by decide +kernel) rc_58 dn_58 dn_54 (sig := ⟨[.int], none⟩) (by decide +kernel) (by decide +kernel) rfl rfl) (by decide +kernel) (by decide +kernel)
theorem m54_34 (a0 : Int32) : M54 34 ls [.int a0, .ref b] (put b e s A L B g) Q = M58 0 [.val (.ref b), .val (.int a0)] [] (put b e s A L B g) (fun v H1 => M54 37 ls (v.toList ++ []) H1 Q) := w_virt (as := [.int a0]) (rest := []) (a := b) (dc (.invokevirtual 519, 3)) cr54_519 put_o rfl rfl (Nat.le_of_ble_eq_true rfl) (by show 2 ≤ 2; omega) rfl
theorem m54_37 : M54 37 [.val (.ref b), l1, l2] st H Q = M54 40 [.val (.ref b), l1, l2] (.int 11 :: .ref b :: st) H Q := (w_x (dc (.aload_n 0, 1)) rfl).trans (w_ki 11 (dc (.bipush 11, 2)) rfl)
theorem cr54_526 : vR tables_1 dn y54 526 = some (true, y59, prog_1_method_85_code, 4, none, 1, 14) := pR_of (cR_of (by decide +kernel) rc_59 dn_59 dn_54 (sig := ⟨[.int], none⟩) (by decide +kernel) (by decide +kernel) rfl rfl) (by decide +kernel) (by decide +kernel)
theorem m54_40 (a0 : Int32) : M54 40 ls [.int a0, .ref b] (put b e s A L B g) Q = M59 0 [.val (.ref b), .val (.int a0), .unset, .unset] [] (put b e s A L B g) (fun v H1 => M54 43 ls (v.toList ++ []) H1 Q) := w_virt (as := [.int a0]) (rest := []) (a := b) (dc (.invokevirtual 526, 3)) cr54_526 put_o rfl rfl (Nat.le_of_ble_eq_true rfl) (by show 2 ≤ 4; omega) rfl
theorem m54_43 : M54 43 [.val (.ref b), l1, l2] st H Q = M54 46 [.val (.ref b), l1, l2] (.int 32 :: .ref b :: st) H Q := (w_x (dc (.aload_n 0, 1)) rfl).trans (w_ki 32 (dc (.bipush 32, 2)) rfl)
theorem m54_46 (a0 : Int32) : M54 46 ls [.int a0, .ref b] (put b e s A L B g) Q = M58 0 [.val (.ref b), .val (.int a0)] [] (put b e s A L B g) (fun v H1 => M54 49 ls (v.toList ++ []) H1 Q) := w_virt (as := [.int a0]) (rest := []) (a := b) (dc (.invokevirtual 519, 3)) cr54_519 put_o rfl rfl (Nat.le_of_ble_eq_true rfl) (by show 2 ≤ 2; omega) rfl
theorem m54_49 : M54 49 [.val (.ref b), .val (.int v1), l2] st (put b e s A L B g) Q = (inB v1 (A 4) ∧ M54 56 [.val (.ref b), .val (.int v1), l2] (.int (getA (A 4) v1) :: .ref b :: st) (put b e s A L B g) Q) := (w_x (dc (.aload_n 0, 1)) rfl).trans ((w_x (dc (.aload_n 0, 1)) rfl).trans ((w_get (dc (.getfield 91, 3)) gf_91 put_o rfl).trans ((w_x (dc (.iload_n 1, 1)) rfl).trans (w_ild (dc (.iaload, 1)) rfl put_a4))))
theorem cr54_529 : vR tables_1 dn y54 529 = some (true, y60, prog_1_method_86_code, 3, none, 1, 34) := pR_of (cR_of (by decide +kernel) rc_60 dn_60 dn_54 (sig := ⟨[.int], none⟩) (by decide +kernel) (by decide +kernel) rfl rfl) (by decide +kernel) (by decide +kernel)
theorem m54_56 (a0 : Int32) : M54 56 ls [.int a0, .ref b] (put b e s A L B g) Q = M60 0 [.val (.ref b), .val (.int a0), .unset] [] (put b e s A L B g) (fun v H1 => M54 59 ls (v.toList ++ []) H1 Q) := w_virt (as := [.int a0]) (rest := []) (a := b) (dc (.invokevirtual 529, 3)) cr54_529 put_o rfl rfl (Nat.le_of_ble_eq_true rfl) (by show 2 ≤ 3; omega) rfl
theorem m54_59 : M54 59 [.val (.ref b), l1, l2] st H Q = M54 62 [.val (.ref b), l1, l2] (.int 10 :: .ref b :: st) H Q := (w_x (dc (.aload_n 0, 1)) rfl).trans (w_ki 10 (dc (.bipush 10, 2)) rfl)
theorem m54_62 (a0 : Int32) : M54 62 ls [.int a0, .ref b] (put b e s A L B g) Q = M58 0 [.val (.ref b), .val (.int a0)] [] (put b e s A L B g) (fun v H1 => M54 65 ls (v.toList ++ []) H1 Q) := w_virt (as := [.int a0]) (rest := []) (a := b) (dc (.invokevirtual 519, 3)) cr54_519 put_o rfl rfl (Nat.le_of_ble_eq_true rfl) (by show 2 ≤ 2; omega) rfl
theorem m54_65 : M54 65 [l0, .val (.int v1), l2] st H Q = M54 7 [l0, .val (.int (v1 + 1)), l2] st H Q := (w_iinc (dc (.iinc 1 1, 3)) rfl (by decide) rfl).trans (w_x (dc (.goto (-61), 3)) rfl)
theorem m54_71 : M54 71 [l0, .val (.int z), .unset] st H Q = M54 75 [l0, .val (.int 0), .val (.int 0)] st H Q := (w_ki 0 (dc (.iconst 0, 1)) rfl).trans ((w_st (i := 1) (p := isI) (dc (.istore_n 1, 1)) rfl rfl rfl rfl rfl rfl).trans ((w_ki 0 (dc (.iconst 0, 1)) rfl).trans (w_st (i := 2) (p := isI) (dc (.istore_n 2, 1)) rfl rfl rfl rfl rfl rfl)))
theorem m54_75 : M54 75 [l0, l1, .val (.int v2)] st H Q = if v2 < 64 then M54 81 [l0, l1, .val (.int v2)] st H Q else M54 107 [l0, l1, .val (.int v2)] st H Q := (w_x (dc (.iload_n 2, 1)) rfl).trans ((w_ki 64 (dc (.bipush 64, 2)) rfl).trans (w_icmpN (dc (.if_icmp .ge 29, 3)) (i_ge v2 64) rfl))
theorem m54_81 : M54 81 [.val (.ref b), .val (.int v1), l2] st (put b e s A L B g) Q = if v1 < (s 26) then M54 89 [.val (.ref b), .val (.int v1), l2] st (put b e s A L B g) Q else M54 107 [.val (.ref b), .val (.int v1), l2] st (put b e s A L B g) Q := (w_x (dc (.iload_n 1, 1)) rfl).trans ((w_x (dc (.aload_n 0, 1)) rfl).trans ((w_get (dc (.getfield 227, 3)) gf_227 put_o rfl).trans (w_icmpN (dc (.if_icmp .ge 21, 3)) (i_ge v1 (s 26)) rfl)))
theorem m54_89 : M54 89 [l0, .val (.int v1), l2] st H Q = if v1 < 32 then M54 95 [l0, .val (.int v1), l2] st H Q else M54 107 [l0, .val (.int v1), l2] st H Q := (w_x (dc (.iload_n 1, 1)) rfl).trans ((w_ki 32 (dc (.bipush 32, 2)) rfl).trans (w_icmpN (dc (.if_icmp .ge 15, 3)) (i_ge v1 32) rfl))
theorem m54_95 : M54 95 [.val (.ref b), .val (.int v1), l2] st H Q = M54 97 [.val (.ref b), .val (.int v1), l2] (.int v1 :: .ref b :: st) H Q := (w_x (dc (.aload_n 0, 1)) rfl).trans (w_x (dc (.iload_n 1, 1)) rfl)
theorem cr54_532 : vR tables_1 dn y54 532 = some (true, y61, prog_1_method_88_code, 3, (some .int), 1, 0) := pR_of (cR_of (by decide +kernel) rc_61 dn_61 dn_54 (sig := ⟨[.int], some .int⟩) (by decide +kernel) (by decide +kernel) rfl rfl) (by decide +kernel) (by decide +kernel)
theorem m54_97 (a0 : Int32) : M54 97 ls [.int a0, .ref b] (put b e s A L B g) Q = M61 0 [.val (.ref b), .val (.int a0), .unset] [] (put b e s A L B g) (fun v H1 => M54 100 ls (v.toList ++ []) H1 Q) := w_virt (as := [.int a0]) (rest := []) (a := b) (dc (.invokevirtual 532, 3)) cr54_532 put_o rfl rfl (Nat.le_of_ble_eq_true rfl) (by show 2 ≤ 3; omega) rfl
theorem m54_100i : M54 100 [l0, .val (.int z), l2] ((.int v) :: st) H Q = M54 101 [l0, .val (.int v), l2] st H Q := w_st (i := 1) (p := isI) (dc (.istore_n 1, 1)) rfl rfl rfl rfl rfl rfl
theorem m54_101 : M54 101 [l0, l1, .val (.int v2)] st H Q = M54 75 [l0, l1, .val (.int (v2 + 1))] st H Q := (w_iinc (dc (.iinc 2 1, 3)) rfl (by decide) rfl).trans (w_x (dc (.goto (-29), 3)) rfl)
theorem m54_107 : M54 107 ls [] H Q = Q none H := w_vret (dc (.return_, 1)) rfl
theorem m55_0 : M55 0 [.val (.ref b), .val (.long w1), l2, l3, l4, l5] st H Q = M55 2 [.val (.ref b), .val (.long w1), l2, l3, l4, l5] (.long w1 :: .ref b :: st) H Q := (w_x (dc (.aload_n 0, 1)) rfl).trans (w_x (dc (.lload_n 1, 1)) rfl)
theorem cr55_255 : vR tables_1 dn y55 255 = some (true, y56, prog_1_method_30_code, 7, (some .int), 1, 0) := pR_of (cR_of (by decide +kernel) rc_56 dn_56 dn_55 (sig := ⟨[.long], some .int⟩) (by decide +kernel) (by decide +kernel) rfl rfl) (by decide +kernel) (by decide +kernel)
theorem m55_2 (a0 : Int64) : M55 2 ls [.long a0, .ref b] (put b e s A L B g) Q = M56 0 [.val (.ref b), .val (.long a0), .second, .unset, .unset, .unset, .unset] [] (put b e s A L B g) (fun v H1 => M55 5 ls (v.toList ++ []) H1 Q) := w_virt (as := [.long a0]) (rest := []) (a := b) (dc (.invokevirtual 255, 3)) cr55_255 put_o rfl rfl (Nat.le_of_ble_eq_true rfl) (by show 3 ≤ 7; omega) rfl
theorem m55_5u : M55 5 [l0, l1, l2, .unset, l4, l5] ((.int v) :: st) H Q = M55 6 [l0, l1, l2, .val (.int v), l4, l5] st H Q := w_st (i := 3) (p := isI) (dc (.istore_n 3, 1)) rfl rfl rfl rfl rfl rfl
theorem m55_6 : M55 6 [l0, l1, l2, l3, .unset, l5] st H Q = M55 9 [l0, l1, l2, l3, .val (.int 0), l5] st H Q := (w_ki 0 (dc (.iconst 0, 1)) rfl).trans (w_st (i := 4) (p := isI) (dc (.istore 4, 2)) rfl rfl rfl rfl rfl rfl)
theorem m55_9 : M55 9 [l0, l1, l2, .val (.int v3), .val (.int v4), l5] st H Q = if v4 < v3 then M55 15 [l0, l1, l2, .val (.int v3), .val (.int v4), l5] st H Q else M55 37 [l0, l1, l2, .val (.int v3), .val (.int v4), l5] st H Q := (w_x (dc (.iload 4, 2)) rfl).trans ((w_x (dc (.iload_n 3, 1)) rfl).trans (w_icmpN (dc (.if_icmp .ge 25, 3)) (i_ge v4 v3) rfl))
theorem m55_15 : M55 15 [.val (.ref b), .val (.long w1), l2, .val (.int v3), .val (.int v4), l5] st H Q = M55 20 [.val (.ref b), .val (.long w1), l2, .val (.int v3), .val (.int v4), l5] (.int v3 :: .int v4 :: .long w1 :: .ref b :: st) H Q := (w_x (dc (.aload_n 0, 1)) rfl).trans ((w_x (dc (.lload_n 1, 1)) rfl).trans ((w_x (dc (.iload 4, 2)) rfl).trans (w_x (dc (.iload_n 3, 1)) rfl)))
theorem cr55_259 : vR tables_1 dn y55 259 = some (true, y57, prog_1_method_31_code, 5, (some .int), 3, 2) := pR_of (cR_of (by decide +kernel) rc_57 dn_57 dn_55 (sig := ⟨[.long, .int, .int], some .int⟩) (by decide +kernel) (by decide +kernel) rfl rfl) (by decide +kernel) (by decide +kernel)
theorem m55_20 (a0 : Int64) (a1 : Int32) (a2 : Int32) : M55 20 ls [.int a2, .int a1, .long a0, .ref b] (put b e s A L B g) Q = M57 0 [.val (.ref b), .val (.long a0), .second, .val (.int a1), .val (.int a2)] [] (put b e s A L B g) (fun v H1 => M55 23 ls (v.toList ++ []) H1 Q) := w_virt (as := [.int a2, .int a1, .long a0]) (rest := []) (a := b) (dc (.invokevirtual 259, 3)) cr55_259 put_o rfl rfl (Nat.le_of_ble_eq_true rfl) (by show 5 ≤ 5; omega) rfl
theorem m55_23u : M55 23 [l0, l1, l2, l3, l4, .unset] ((.int v) :: st) H Q = M55 25 [l0, l1, l2, l3, l4, .val (.int v)] st H Q := w_st (i := 5) (p := isI) (dc (.istore 5, 2)) rfl rfl rfl rfl rfl rfl
theorem m55_23i : M55 23 [l0, l1, l2, l3, l4, .val (.int z)] ((.int v) :: st) H Q = M55 25 [l0, l1, l2, l3, l4, .val (.int v)] st H Q := w_st (i := 5) (p := isI) (dc (.istore 5, 2)) rfl rfl rfl rfl rfl rfl
theorem m55_23g (h : okS l5) : M55 23 [l0, l1, l2, l3, l4, l5] ((.int v) :: st) H Q = M55 25 [l0, l1, l2, l3, l4, .val (.int v)] st H Q := by rcases h with rfl | ⟨z, rfl⟩ <;> first | exact m55_23u | exact m55_23i
theorem m55_25 : M55 25 [.val (.ref b), l1, l2, l3, l4, .val (.int v5)] st H Q = M55 28 [.val (.ref b), l1, l2, l3, l4, .val (.int v5)] (.int v5 :: .ref b :: st) H Q := (w_x (dc (.aload_n 0, 1)) rfl).trans (w_x (dc (.iload 5, 2)) rfl)
theorem cr55_519 : vR tables_1 dn y55 519 = some (true, y58, prog_1_method_83_code, 2, none, 1, 5) := pR_of (cR_of (by decide +kernel) rc_58 dn_58 dn_55 (sig := ⟨[.int], none⟩) (by decide +kernel) (by decide +kernel) rfl rfl) (by decide +kernel) (by decide +kernel)
theorem m55_28 (a0 : Int32) : M55 28 ls [.int a0, .ref b] (put b e s A L B g) Q = M58 0 [.val (.ref b), .val (.int a0)] [] (put b e s A L B g) (fun v H1 => M55 31 ls (v.toList ++ []) H1 Q) := w_virt (as := [.int a0]) (rest := []) (a := b) (dc (.invokevirtual 519, 3)) cr55_519 put_o rfl rfl (Nat.le_of_ble_eq_true rfl) (by show 2 ≤ 2; omega) rfl
theorem m55_31 : M55 31 [l0, l1, l2, l3, .val (.int v4), l5] st H Q = M55 9 [l0, l1, l2, l3, .val (.int (v4 + 1)), l5] st H Q := (w_iinc (dc (.iinc 4 1, 3)) rfl (by decide) rfl).trans (w_x (dc (.goto (-25), 3)) rfl)
theorem m55_37 : M55 37 ls [] H Q = Q none H := w_vret (dc (.return_, 1)) rfl
theorem m56_0 : M56 0 [l0, .val (.long J1), l2, l3, l4, l5, l6] st H Q = M56 1 [l0, .val (.long J1), l2, l3, l4, l5, l6] (.long J1 :: st) H Q := w_x (dc (.lload_n 1, 1)) rfl
theorem m56_1 : M56 1 [l0, l1, l2, .unset, .unset, l5, l6] (.long J1 :: st) H Q = M56 2 [l0, l1, l2, .val (.long J1), .second, l5, l6] st H Q := w_x (dc (.lstore_n 3, 1)) rfl
theorem m56_2 : M56 2 [l0, l1, l2, l3, l4, .unset, .unset] st H Q = M56 8 [l0, l1, l2, l3, l4, .val (.int 0), .val (.int 0)] st H Q := (w_ki 0 (dc (.iconst 0, 1)) rfl).trans ((w_st (i := 5) (p := isI) (dc (.istore 5, 2)) rfl rfl rfl rfl rfl rfl).trans ((w_ki 0 (dc (.iconst 0, 1)) rfl).trans (w_st (i := 6) (p := isI) (dc (.istore 6, 2)) rfl rfl rfl rfl rfl rfl)))
theorem m56_8 : M56 8 [l0, l1, l2, l3, l4, l5, .val (.int v6)] st H Q = if v6 < 9 then M56 15 [l0, l1, l2, l3, l4, l5, .val (.int v6)] st H Q else M56 35 [l0, l1, l2, l3, l4, l5, .val (.int v6)] st H Q := (w_x (dc (.iload 6, 2)) rfl).trans ((w_ki 9 (dc (.bipush 9, 2)) rfl).trans (w_icmpN (dc (.if_icmp .ge 23, 3)) (i_ge v6 9) rfl))
theorem m56_15 : M56 15 [l0, l1, l2, .val (.long w3), l4, l5, l6] st H Q = if 0 < (XT.cmpL w3 0) then M56 21 [l0, l1, l2, .val (.long w3), l4, l5, l6] st H Q else M56 35 [l0, l1, l2, .val (.long w3), l4, l5, l6] st H Q := (w_x (dc (.lload_n 3, 1)) rfl).trans ((w_kl 0 (dc (.lconst 0, 1)) rfl).trans ((w_x (dc (.lcmp, 1)) rfl).trans (w_ifN (dc (.ifCond .le 17, 3)) (z_le (XT.cmpL w3 0)) rfl)))
theorem m56_21 : M56 21 [l0, l1, l2, .val (.long w3), l4, l5, l6] st H Q = M56 25 [l0, l1, l2, .val (.long w3), l4, l5, l6] (.long (XT.ushrL w3 7) :: st) H Q := (w_x (dc (.lload_n 3, 1)) rfl).trans ((w_ki 7 (dc (.bipush 7, 2)) rfl).trans (w_x (dc (.lushr, 1)) rfl))
theorem m56_25 : M56 25 [l0, l1, l2, .val (.long J2), .second, l5, l6] (.long J1 :: st) H Q = M56 26 [l0, l1, l2, .val (.long J1), .second, l5, l6] st H Q := w_x (dc (.lstore_n 3, 1)) rfl
theorem m56_26 : M56 26 [l0, l1, l2, l3, l4, .val (.int v5), .val (.int v6)] st H Q = M56 8 [l0, l1, l2, l3, l4, .val (.int (v5 + 1)), .val (.int (v6 + 1))] st H Q := (w_iinc (dc (.iinc 5 1, 3)) rfl (by decide) rfl).trans ((w_iinc (dc (.iinc 6 1, 3)) rfl (by decide) rfl).trans (w_x (dc (.goto (-24), 3)) rfl))
theorem m56_35 : M56 35 [l0, l1, l2, l3, l4, .val (.int v), l6] st H Q = M56 37 [l0, l1, l2, l3, l4, .val (.int v), l6] (.int v :: st) H Q := w_x (dc (.iload 5, 2)) rfl
theorem m56_37 : M56 37 ls (.int z :: st) H Q = Q (some (.int z)) H := w_iret (dc (.ireturn, 1)) rfl
theorem m57_0 : M57 0 [l0, .val (.long w1), l2, .val (.int v3), .val (.int v4)] st H Q = M57 16 [l0, .val (.long w1), l2, .val (.int v3), .val (.int v4)] (.int ((((XT.ushrL w1 ((7 * (((v4 - 1) - v3)))))) &&& 127)).toInt32 :: st) H Q := (w_x (dc (.lload_n 1, 1)) rfl).trans ((w_ki 7 (dc (.bipush 7, 2)) rfl).trans ((w_x (dc (.iload 4, 2)) rfl).trans ((w_ki 1 (dc (.iconst 1, 1)) rfl).trans ((w_x (dc (.isub, 1)) rfl).trans ((w_x (dc (.iload_n 3, 1)) rfl).trans ((w_x (dc (.isub, 1)) rfl).trans ((w_x (dc (.imul, 1)) rfl).trans ((w_x (dc (.lushr, 1)) rfl).trans ((w_ldc2 (v := 127) (dc (.ldc2_w 299, 3)) (by decide +kernel)).trans ((w_x (dc (.land, 1)) rfl).trans (w_x (dc (.l2i, 1)) rfl)))))))))))
theorem m57_16 : M57 16 ls (.int z :: st) H Q = Q (some (.int z)) H := w_iret (dc (.ireturn, 1)) rfl
theorem m58_0 : M58 0 [.val (.ref b), l1] st (put b e s A L B g) Q = if (s 29) < 624 then M58 11 [.val (.ref b), l1] st (put b e s A L B g) Q else M58 10 [.val (.ref b), l1] st (put b e s A L B g) Q := (w_x (dc (.aload_n 0, 1)) rfl).trans ((w_get (dc (.getfield 236, 3)) gf_236 put_o rfl).trans ((w_ki 624 (dc (.sipush 624, 3)) rfl).trans (w_icmp (dc (.if_icmp .lt 4, 3)) (i_lt (s 29) 624) rfl)))
theorem m58_10 : M58 10 ls [] H Q = Q none H := w_vret (dc (.return_, 1)) rfl
theorem m58_11 : M58 11 [.val (.ref b), .val (.int v1)] st (put b e s A L B g) Q = (inB (s 29) (A 5) ∧ M58 22 [.val (.ref b), .val (.int v1)] st (put b e s (ou A 5 (setA (A 5) (s 29) (nar .char (v1.toUInt32.toUInt16.toUInt32.toInt32)))) L B g) Q) := (w_x (dc (.aload_n 0, 1)) rfl).trans ((w_get (dc (.getfield 94, 3)) gf_94 put_o rfl).trans ((w_x (dc (.aload_n 0, 1)) rfl).trans ((w_get (dc (.getfield 236, 3)) gf_236 put_o rfl).trans ((w_x (dc (.iload_n 1, 1)) rfl).trans ((w_x (dc (.i2c, 1)) rfl).trans (w_ist (dc (.castore, 1)) rfl put_a5 (Nat.zero_le _) rfl put_w5))))))
theorem pf58_236 : pfR tables_1 y58.cls y58.name 236 = some ("MacroAssembler", 62, .int) := by decide +kernel
theorem m58_22 : M58 22 [.val (.ref b), l1] st (put b e s A L B g) Q = M58 32 [.val (.ref b), l1] st (put b e (ou s 29 (((s 29) + 1))) A L B g) Q := (w_x (dc (.aload_n 0, 1)) rfl).trans ((w_x (dc (.dup, 1)) rfl).trans ((w_get (dc (.getfield 236, 3)) gf_236 put_o rfl).trans ((w_ki 1 (dc (.iconst 1, 1)) rfl).trans ((w_x (dc (.iadd, 1)) rfl).trans (w_put (dc (.putfield 236, 3)) pf58_236 put_o (Nat.zero_le _) (by show 62 < 90; omega) rfl put_s29)))))
theorem m58_32 : M58 32 ls [] H Q = Q none H := w_vret (dc (.return_, 1)) rfl
theorem m59_0 : M59 0 [.val (.ref b), .val (.int v1), l2, l3] st H Q = M59 2 [.val (.ref b), .val (.int v1), l2, l3] (.int v1 :: .ref b :: st) H Q := (w_x (dc (.aload_n 0, 1)) rfl).trans (w_x (dc (.iload_n 1, 1)) rfl)
theorem cr59_307 : vR tables_1 dn y59 307 = some (true, y20, prog_1_method_33_code, 2, (some .long), 1, 3) := pR_of (cR_of (by decide +kernel) rc_20 dn_20 dn_59 (sig := ⟨[.int], some .long⟩) (by decide +kernel) (by decide +kernel) rfl rfl) (by decide +kernel) (by decide +kernel)
theorem m59_2 (a0 : Int32) : M59 2 ls [.int a0, .ref b] (put b e s A L B g) Q = M20 0 [.val (.ref b), .val (.int a0)] [] (put b e s A L B g) (fun v H1 => M59 5 ls (v.toList ++ []) H1 Q) := w_virt (as := [.int a0]) (rest := []) (a := b) (dc (.invokevirtual 307, 3)) cr59_307 put_o rfl rfl (Nat.le_of_ble_eq_true rfl) (by show 2 ≤ 2; omega) rfl
theorem m59_5 : M59 5 [l0, l1, .unset, .unset] (.long J1 :: st) H Q = M59 6 [l0, l1, .val (.long J1), .second] st H Q := w_x (dc (.lstore_n 2, 1)) rfl
theorem m59_6 : M59 6 [.val (.ref b), l1, .val (.long w2), l3] st H Q = M59 8 [.val (.ref b), l1, .val (.long w2), l3] (.long w2 :: .ref b :: st) H Q := (w_x (dc (.aload_n 0, 1)) rfl).trans (w_x (dc (.lload_n 2, 1)) rfl)
theorem cr59_522 : vR tables_1 dn y59 522 = some (true, y55, prog_1_method_84_code, 6, none, 1, 0) := pR_of (cR_of (by decide +kernel) rc_55 dn_55 dn_59 (sig := ⟨[.long], none⟩) (by decide +kernel) (by decide +kernel) rfl rfl) (by decide +kernel) (by decide +kernel)
theorem m59_8 (a0 : Int64) : M59 8 ls [.long a0, .ref b] (put b e s A L B g) Q = M55 0 [.val (.ref b), .val (.long a0), .second, .unset, .unset, .unset] [] (put b e s A L B g) (fun v H1 => M59 11 ls (v.toList ++ []) H1 Q) := w_virt (as := [.long a0]) (rest := []) (a := b) (dc (.invokevirtual 522, 3)) cr59_522 put_o rfl rfl (Nat.le_of_ble_eq_true rfl) (by show 3 ≤ 6; omega) rfl
theorem m59_11 : M59 11 ls [] H Q = Q none H := w_vret (dc (.return_, 1)) rfl
theorem m60_0 : M60 0 [.val (.ref b), .val (.int v1), l2] st H Q = M60 2 [.val (.ref b), .val (.int v1), l2] (.int v1 :: .ref b :: st) H Q := (w_x (dc (.aload_n 0, 1)) rfl).trans (w_x (dc (.iload_n 1, 1)) rfl)
theorem cr60_388 : vR tables_1 dn y60 388 = some (true, y40, prog_1_method_37_code, 5, none, 1, 0) := pR_of (cR_of (by decide +kernel) rc_40 dn_40 dn_60 (sig := ⟨[.int], none⟩) (by decide +kernel) (by decide +kernel) rfl rfl) (by decide +kernel) (by decide +kernel)
theorem m60_2 (a0 : Int32) : M60 2 ls [.int a0, .ref b] (put b e s A L B g) Q = M40 0 [.val (.ref b), .val (.int a0), .unset, .unset, .unset] [] (put b e s A L B g) (fun v H1 => M60 5 ls (v.toList ++ []) H1 Q) := w_virt (as := [.int a0]) (rest := []) (a := b) (dc (.invokevirtual 388, 3)) cr60_388 put_o rfl rfl (Nat.le_of_ble_eq_true rfl) (by show 2 ≤ 5; omega) rfl
theorem m60_5 : M60 5 [.val (.ref b), l1, .unset] st (put b e s A L B g) Q = M60 10 [.val (.ref b), l1, .val (.int (s 30))] st (put b e s A L B g) Q := (w_x (dc (.aload_n 0, 1)) rfl).trans ((w_get (dc (.getfield 313, 3)) gf_313 put_o rfl).trans (w_st (i := 2) (p := isI) (dc (.istore_n 2, 1)) rfl rfl rfl rfl rfl rfl))
theorem m60_10 : M60 10 [l0, l1, .val (.int v2)] st H Q = if v2 < 12 then M60 16 [l0, l1, .val (.int v2)] st H Q else M60 32 [l0, l1, .val (.int v2)] st H Q := (w_x (dc (.iload_n 2, 1)) rfl).trans ((w_ki 12 (dc (.bipush 12, 2)) rfl).trans (w_icmpN (dc (.if_icmp .ge 19, 3)) (i_ge v2 12) rfl))
theorem m60_16 : M60 16 [.val (.ref b), l1, .val (.int v2)] st (put b e s A L B g) Q = (inB v2 (A 6) ∧ M60 23 [.val (.ref b), l1, .val (.int v2)] (.int (getA (A 6) v2) :: .ref b :: st) (put b e s A L B g) Q) := (w_x (dc (.aload_n 0, 1)) rfl).trans ((w_x (dc (.aload_n 0, 1)) rfl).trans ((w_get (dc (.getfield 97, 3)) gf_97 put_o rfl).trans ((w_x (dc (.iload_n 2, 1)) rfl).trans (w_ild (dc (.caload, 1)) rfl put_a6))))
theorem cr60_519 : vR tables_1 dn y60 519 = some (true, y58, prog_1_method_83_code, 2, none, 1, 3) := pR_of (cR_of (by decide +kernel) rc_58 dn_58 dn_60 (sig := ⟨[.int], none⟩) (by decide +kernel) (by decide +kernel) rfl rfl) (by decide +kernel) (by decide +kernel)
theorem m60_23 (a0 : Int32) : M60 23 ls [.int a0, .ref b] (put b e s A L B g) Q = M58 0 [.val (.ref b), .val (.int a0)] [] (put b e s A L B g) (fun v H1 => M60 26 ls (v.toList ++ []) H1 Q) := w_virt (as := [.int a0]) (rest := []) (a := b) (dc (.invokevirtual 519, 3)) cr60_519 put_o rfl rfl (Nat.le_of_ble_eq_true rfl) (by show 2 ≤ 2; omega) rfl
theorem m60_26 : M60 26 [l0, l1, .val (.int v2)] st H Q = M60 10 [l0, l1, .val (.int (v2 + 1))] st H Q := (w_iinc (dc (.iinc 2 1, 3)) rfl (by decide) rfl).trans (w_x (dc (.goto (-19), 3)) rfl)
theorem m60_32 : M60 32 ls [] H Q = Q none H := w_vret (dc (.return_, 1)) rfl
theorem m61_0 : M61 0 [.val (.ref b), .val (.int v1), l2] st (put b e s A L B g) Q = (inB v1 (A 3) ∧ M61 6 [.val (.ref b), .val (.int v1), l2] (.int (getA (A 3) v1) :: st) (put b e s A L B g) Q) := (w_x (dc (.aload_n 0, 1)) rfl).trans ((w_get (dc (.getfield 84, 3)) gf_84 put_o rfl).trans ((w_x (dc (.iload_n 1, 1)) rfl).trans (w_ild (dc (.iaload, 1)) rfl put_a3)))
theorem m61_6u : M61 6 [l0, l1, .unset] ((.int v) :: st) H Q = M61 7 [l0, l1, .val (.int v)] st H Q := w_st (i := 2) (p := isI) (dc (.istore_n 2, 1)) rfl rfl rfl rfl rfl rfl
theorem m61_7 : M61 7 [l0, l1, .val (.int v2)] st H Q = if v2 < 0 then M61 31 [l0, l1, .val (.int v2)] st H Q else M61 11 [l0, l1, .val (.int v2)] st H Q := (w_x (dc (.iload_n 2, 1)) rfl).trans (w_if (dc (.ifCond .lt 23, 3)) (z_lt v2) rfl)
theorem m61_11 : M61 11 [l0, l1, .val (.int v2)] st H Q = if 3 < v2 then M61 31 [l0, l1, .val (.int v2)] st H Q else M61 16 [l0, l1, .val (.int v2)] st H Q := (w_x (dc (.iload_n 2, 1)) rfl).trans ((w_ki 3 (dc (.iconst 3, 1)) rfl).trans (w_icmp (dc (.if_icmp .gt 18, 3)) (i_gt v2 3) rfl))
theorem m61_16 : M61 16 [.val (.ref b), l1, .val (.int v2)] st H Q = M61 18 [.val (.ref b), l1, .val (.int v2)] (.int v2 :: .ref b :: st) H Q := (w_x (dc (.aload_n 0, 1)) rfl).trans (w_x (dc (.iload_n 2, 1)) rfl)
theorem cr61_526 : vR tables_1 dn y61 526 = some (true, y59, prog_1_method_85_code, 4, none, 1, 0) := pR_of (cR_of (by decide +kernel) rc_59 dn_59 dn_61 (sig := ⟨[.int], none⟩) (by decide +kernel) (by decide +kernel) rfl rfl) (by decide +kernel) (by decide +kernel)
theorem m61_18 (a0 : Int32) : M61 18 ls [.int a0, .ref b] (put b e s A L B g) Q = M59 0 [.val (.ref b), .val (.int a0), .unset, .unset] [] (put b e s A L B g) (fun v H1 => M61 21 ls (v.toList ++ []) H1 Q) := w_virt (as := [.int a0]) (rest := []) (a := b) (dc (.invokevirtual 526, 3)) cr61_526 put_o rfl rfl (Nat.le_of_ble_eq_true rfl) (by show 2 ≤ 4; omega) rfl
theorem m61_21 : M61 21 [.val (.ref b), l1, l2] st H Q = M61 24 [.val (.ref b), l1, l2] (.int 10 :: .ref b :: st) H Q := (w_x (dc (.aload_n 0, 1)) rfl).trans (w_ki 10 (dc (.bipush 10, 2)) rfl)
theorem cr61_519 : vR tables_1 dn y61 519 = some (true, y58, prog_1_method_83_code, 2, none, 1, 37) := pR_of (cR_of (by decide +kernel) rc_58 dn_58 dn_61 (sig := ⟨[.int], none⟩) (by decide +kernel) (by decide +kernel) rfl rfl) (by decide +kernel) (by decide +kernel)
theorem m61_24 (a0 : Int32) : M61 24 ls [.int a0, .ref b] (put b e s A L B g) Q = M58 0 [.val (.ref b), .val (.int a0)] [] (put b e s A L B g) (fun v H1 => M61 27 ls (v.toList ++ []) H1 Q) := w_virt (as := [.int a0]) (rest := []) (a := b) (dc (.invokevirtual 519, 3)) cr61_519 put_o rfl rfl (Nat.le_of_ble_eq_true rfl) (by show 2 ≤ 2; omega) rfl
theorem m61_27 : M61 27 [l0, .val (.int v1), l2] st H Q = M61 30 [l0, .val (.int v1), l2] (.int (v1 + 1) :: st) H Q := (w_x (dc (.iload_n 1, 1)) rfl).trans ((w_ki 1 (dc (.iconst 1, 1)) rfl).trans (w_x (dc (.iadd, 1)) rfl))
theorem m61_30 : M61 30 ls (.int z :: st) H Q = Q (some (.int z)) H := w_iret (dc (.ireturn, 1)) rfl
theorem m61_31 : M61 31 [l0, l1, .val (.int v2)] st H Q = if v2 < 16 then M61 77 [l0, l1, .val (.int v2)] st H Q else M61 37 [l0, l1, .val (.int v2)] st H Q := (w_x (dc (.iload_n 2, 1)) rfl).trans ((w_ki 16 (dc (.bipush 16, 2)) rfl).trans (w_icmp (dc (.if_icmp .lt 43, 3)) (i_lt v2 16) rfl))
theorem m61_37 : M61 37 [l0, l1, .val (.int v2)] st H Q = if 111 < v2 then M61 77 [l0, l1, .val (.int v2)] st H Q else M61 43 [l0, l1, .val (.int v2)] st H Q := (w_x (dc (.iload_n 2, 1)) rfl).trans ((w_ki 111 (dc (.bipush 111, 2)) rfl).trans (w_icmp (dc (.if_icmp .gt 37, 3)) (i_gt v2 111) rfl))
theorem m61_43 : M61 43 [.val (.ref b), l1, .val (.int v2)] st H Q = M61 47 [.val (.ref b), l1, .val (.int v2)] (.int 16 :: .int v2 :: .ref b :: st) H Q := (w_x (dc (.aload_n 0, 1)) rfl).trans ((w_x (dc (.iload_n 2, 1)) rfl).trans (w_ki 16 (dc (.bipush 16, 2)) rfl))
theorem m61_47 : M61 47 ls (.int y :: .int x :: st) H Q = (y ≠ 0 ∧ M61 48 ls (.int (x / y) :: st) H Q) := w_div (f := fun x y => x / y) (dc (.idiv, 1)) (fun _ => rfl) rfl rfl
theorem m61_48 : M61 48 ls st H Q = M61 49 ls (.int 3 :: st) H Q := w_con (dc (.iconst 3, 1)) rfl (by decide)
theorem m61_49 : M61 49 ls (.int y :: .int x :: st) H Q = M61 50 ls (.int (x + y) :: st) H Q := w_x (dc (.iadd, 1)) rfl
theorem m61_50 (a0 : Int32) : M61 50 ls [.int a0, .ref b] (put b e s A L B g) Q = M59 0 [.val (.ref b), .val (.int a0), .unset, .unset] [] (put b e s A L B g) (fun v H1 => M61 53 ls (v.toList ++ []) H1 Q) := w_virt (as := [.int a0]) (rest := []) (a := b) (dc (.invokevirtual 526, 3)) cr61_526 put_o rfl rfl (Nat.le_of_ble_eq_true rfl) (by show 2 ≤ 4; omega) rfl
theorem m61_53 : M61 53 [.val (.ref b), l1, l2] st H Q = M61 56 [.val (.ref b), l1, l2] (.int 32 :: .ref b :: st) H Q := (w_x (dc (.aload_n 0, 1)) rfl).trans (w_ki 32 (dc (.bipush 32, 2)) rfl)
theorem m61_56 (a0 : Int32) : M61 56 ls [.int a0, .ref b] (put b e s A L B g) Q = M58 0 [.val (.ref b), .val (.int a0)] [] (put b e s A L B g) (fun v H1 => M61 59 ls (v.toList ++ []) H1 Q) := w_virt (as := [.int a0]) (rest := []) (a := b) (dc (.invokevirtual 519, 3)) cr61_519 put_o rfl rfl (Nat.le_of_ble_eq_true rfl) (by show 2 ≤ 2; omega) rfl
theorem m61_59 : M61 59 [.val (.ref b), l1, .val (.int v2)] st H Q = M61 63 [.val (.ref b), l1, .val (.int v2)] (.int 16 :: .int v2 :: .ref b :: st) H Q := (w_x (dc (.aload_n 0, 1)) rfl).trans ((w_x (dc (.iload_n 2, 1)) rfl).trans (w_ki 16 (dc (.bipush 16, 2)) rfl))
theorem m61_63 : M61 63 ls (.int y :: .int x :: st) H Q = (y ≠ 0 ∧ M61 64 ls (.int (x % y) :: st) H Q) := w_div (f := fun x y => x % y) (dc (.irem, 1)) (fun _ => rfl) rfl rfl
theorem cr61_529 : vR tables_1 dn y61 529 = some (true, y60, prog_1_method_86_code, 3, none, 1, 20) := pR_of (cR_of (by decide +kernel) rc_60 dn_60 dn_61 (sig := ⟨[.int], none⟩) (by decide +kernel) (by decide +kernel) rfl rfl) (by decide +kernel) (by decide +kernel)
theorem m61_64 (a0 : Int32) : M61 64 ls [.int a0, .ref b] (put b e s A L B g) Q = M60 0 [.val (.ref b), .val (.int a0), .unset] [] (put b e s A L B g) (fun v H1 => M61 67 ls (v.toList ++ []) H1 Q) := w_virt (as := [.int a0]) (rest := []) (a := b) (dc (.invokevirtual 529, 3)) cr61_529 put_o rfl rfl (Nat.le_of_ble_eq_true rfl) (by show 2 ≤ 3; omega) rfl
theorem m61_67 : M61 67 [.val (.ref b), l1, l2] st H Q = M61 70 [.val (.ref b), l1, l2] (.int 10 :: .ref b :: st) H Q := (w_x (dc (.aload_n 0, 1)) rfl).trans (w_ki 10 (dc (.bipush 10, 2)) rfl)
theorem m61_70 (a0 : Int32) : M61 70 ls [.int a0, .ref b] (put b e s A L B g) Q = M58 0 [.val (.ref b), .val (.int a0)] [] (put b e s A L B g) (fun v H1 => M61 73 ls (v.toList ++ []) H1 Q) := w_virt (as := [.int a0]) (rest := []) (a := b) (dc (.invokevirtual 519, 3)) cr61_519 put_o rfl rfl (Nat.le_of_ble_eq_true rfl) (by show 2 ≤ 2; omega) rfl
theorem m61_73 : M61 73 [l0, .val (.int v1), l2] st H Q = M61 76 [l0, .val (.int v1), l2] (.int (v1 + 1) :: st) H Q := (w_x (dc (.iload_n 1, 1)) rfl).trans ((w_ki 1 (dc (.iconst 1, 1)) rfl).trans (w_x (dc (.iadd, 1)) rfl))
theorem m61_76 : M61 76 ls (.int z :: st) H Q = Q (some (.int z)) H := w_iret (dc (.ireturn, 1)) rfl
theorem m61_77 : M61 77 [l0, l1, .val (.int v2)] st H Q = if v2 < 129 then M61 151 [l0, l1, .val (.int v2)] st H Q else M61 84 [l0, l1, .val (.int v2)] st H Q := (w_x (dc (.iload_n 2, 1)) rfl).trans ((w_ki 129 (dc (.sipush 129, 3)) rfl).trans (w_icmp (dc (.if_icmp .lt 70, 3)) (i_lt v2 129) rfl))
theorem m61_84 : M61 84 [l0, l1, .val (.int v2)] st H Q = if 134 < v2 then M61 151 [l0, l1, .val (.int v2)] st H Q else M61 91 [l0, l1, .val (.int v2)] st H Q := (w_x (dc (.iload_n 2, 1)) rfl).trans ((w_ki 134 (dc (.sipush 134, 3)) rfl).trans (w_icmp (dc (.if_icmp .gt 63, 3)) (i_gt v2 134) rfl))
theorem m61_91 : M61 91 [.val (.ref b), .val (.int v1), l2] st (put b e s A L B g) Q = if (v1 + 1) < (s 26) then M61 101 [.val (.ref b), .val (.int v1), l2] st (put b e s A L B g) Q else M61 151 [.val (.ref b), .val (.int v1), l2] st (put b e s A L B g) Q := (w_x (dc (.iload_n 1, 1)) rfl).trans ((w_ki 1 (dc (.iconst 1, 1)) rfl).trans ((w_x (dc (.iadd, 1)) rfl).trans ((w_x (dc (.aload_n 0, 1)) rfl).trans ((w_get (dc (.getfield 227, 3)) gf_227 put_o rfl).trans (w_icmpN (dc (.if_icmp .ge 53, 3)) (i_ge (v1 + 1) (s 26)) rfl)))))
theorem m61_101 : M61 101 [l0, .val (.int v1), l2] st H Q = if (v1 + 1) < 32 then M61 109 [l0, .val (.int v1), l2] st H Q else M61 151 [l0, .val (.int v1), l2] st H Q := (w_x (dc (.iload_n 1, 1)) rfl).trans ((w_ki 1 (dc (.iconst 1, 1)) rfl).trans ((w_x (dc (.iadd, 1)) rfl).trans ((w_ki 32 (dc (.bipush 32, 2)) rfl).trans (w_icmpN (dc (.if_icmp .ge 45, 3)) (i_ge (v1 + 1) 32) rfl))))
theorem m61_109 : M61 109 [.val (.ref b), l1, .val (.int v2)] st H Q = M61 114 [.val (.ref b), l1, .val (.int v2)] (.int (v2 - 125) :: .ref b :: st) H Q := (w_x (dc (.aload_n 0, 1)) rfl).trans ((w_x (dc (.iload_n 2, 1)) rfl).trans ((w_ki 125 (dc (.bipush 125, 2)) rfl).trans (w_x (dc (.isub, 1)) rfl)))
theorem m61_114 (a0 : Int32) : M61 114 ls [.int a0, .ref b] (put b e s A L B g) Q = M59 0 [.val (.ref b), .val (.int a0), .unset, .unset] [] (put b e s A L B g) (fun v H1 => M61 117 ls (v.toList ++ []) H1 Q) := w_virt (as := [.int a0]) (rest := []) (a := b) (dc (.invokevirtual 526, 3)) cr61_526 put_o rfl rfl (Nat.le_of_ble_eq_true rfl) (by show 2 ≤ 4; omega) rfl
theorem m61_117 : M61 117 [.val (.ref b), l1, l2] st H Q = M61 120 [.val (.ref b), l1, l2] (.int 32 :: .ref b :: st) H Q := (w_x (dc (.aload_n 0, 1)) rfl).trans (w_ki 32 (dc (.bipush 32, 2)) rfl)
theorem m61_120 (a0 : Int32) : M61 120 ls [.int a0, .ref b] (put b e s A L B g) Q = M58 0 [.val (.ref b), .val (.int a0)] [] (put b e s A L B g) (fun v H1 => M61 123 ls (v.toList ++ []) H1 Q) := w_virt (as := [.int a0]) (rest := []) (a := b) (dc (.invokevirtual 519, 3)) cr61_519 put_o rfl rfl (Nat.le_of_ble_eq_true rfl) (by show 2 ≤ 2; omega) rfl
theorem m61_123 : M61 123 [.val (.ref b), l1, l2] st H Q = M61 126 [.val (.ref b), l1, l2] (.int 62 :: .ref b :: st) H Q := (w_x (dc (.aload_n 0, 1)) rfl).trans (w_ki 62 (dc (.bipush 62, 2)) rfl)
theorem m61_126 (a0 : Int32) : M61 126 ls [.int a0, .ref b] (put b e s A L B g) Q = M58 0 [.val (.ref b), .val (.int a0)] [] (put b e s A L B g) (fun v H1 => M61 129 ls (v.toList ++ []) H1 Q) := w_virt (as := [.int a0]) (rest := []) (a := b) (dc (.invokevirtual 519, 3)) cr61_519 put_o rfl rfl (Nat.le_of_ble_eq_true rfl) (by show 2 ≤ 2; omega) rfl
theorem m61_129 : M61 129 [.val (.ref b), .val (.int v1), l2] st (put b e s A L B g) Q = (inB (v1 + 1) (A 3) ∧ M61 138 [.val (.ref b), .val (.int v1), l2] (.int (getA (A 3) (v1 + 1)) :: .ref b :: st) (put b e s A L B g) Q) := (w_x (dc (.aload_n 0, 1)) rfl).trans ((w_x (dc (.aload_n 0, 1)) rfl).trans ((w_get (dc (.getfield 84, 3)) gf_84 put_o rfl).trans ((w_x (dc (.iload_n 1, 1)) rfl).trans ((w_ki 1 (dc (.iconst 1, 1)) rfl).trans ((w_x (dc (.iadd, 1)) rfl).trans (w_ild (dc (.iaload, 1)) rfl put_a3))))))
theorem m61_138 (a0 : Int32) : M61 138 ls [.int a0, .ref b] (put b e s A L B g) Q = M60 0 [.val (.ref b), .val (.int a0), .unset] [] (put b e s A L B g) (fun v H1 => M61 141 ls (v.toList ++ []) H1 Q) := w_virt (as := [.int a0]) (rest := []) (a := b) (dc (.invokevirtual 529, 3)) cr61_529 put_o rfl rfl (Nat.le_of_ble_eq_true rfl) (by show 2 ≤ 3; omega) rfl
theorem m61_141 : M61 141 [.val (.ref b), l1, l2] st H Q = M61 144 [.val (.ref b), l1, l2] (.int 10 :: .ref b :: st) H Q := (w_x (dc (.aload_n 0, 1)) rfl).trans (w_ki 10 (dc (.bipush 10, 2)) rfl)
theorem m61_144 (a0 : Int32) : M61 144 ls [.int a0, .ref b] (put b e s A L B g) Q = M58 0 [.val (.ref b), .val (.int a0)] [] (put b e s A L B g) (fun v H1 => M61 147 ls (v.toList ++ []) H1 Q) := w_virt (as := [.int a0]) (rest := []) (a := b) (dc (.invokevirtual 519, 3)) cr61_519 put_o rfl rfl (Nat.le_of_ble_eq_true rfl) (by show 2 ≤ 2; omega) rfl
theorem m61_147 : M61 147 [l0, .val (.int v1), l2] st H Q = M61 150 [l0, .val (.int v1), l2] (.int (v1 + 2) :: st) H Q := (w_x (dc (.iload_n 1, 1)) rfl).trans ((w_ki 2 (dc (.iconst 2, 1)) rfl).trans (w_x (dc (.iadd, 1)) rfl))
theorem m61_150 : M61 150 ls (.int z :: st) H Q = Q (some (.int z)) H := w_iret (dc (.ireturn, 1)) rfl
theorem m62_0 : M62 0 [l0, .val (.int v1)] st H Q = if v1 < 0 then M62 18 [l0, .val (.int v1)] st H Q else M62 4 [l0, .val (.int v1)] st H Q := (w_x (dc (.iload_n 1, 1)) rfl).trans (w_if (dc (.ifCond .lt 17, 3)) (z_lt v1) rfl)
theorem m62_4 : M62 4 [.val (.ref b), .val (.int v1)] st H Q = M62 6 [.val (.ref b), .val (.int v1)] (.ref b :: .int v1 :: st) H Q := (w_x (dc (.iload_n 1, 1)) rfl).trans (w_x (dc (.aload_n 0, 1)) rfl)
theorem cr62_248 : vR tables_1 dn y62 248 = some (false, y63, prog_1_method_9_code, 1, (some .int), 0, 1) := vR_of (cR_of (by decide +kernel) rc_63 dn_63 dn_62 (sig := ⟨[], some .int⟩) (by decide +kernel) (by decide +kernel) rfl rfl) (by decide +kernel) (by decide +kernel) (by decide +kernel)
theorem m62_6 (u0 : Int32) : M62 6 ls [.ref b, .int u0] (put b e s A L B g) Q = M63 0 [.val (.ref b)] [] (put b e s A L B g) (fun v H1 => M62 9 ls (v.toList ++ [.int u0]) H1 Q) := w_virt (as := []) (rest := [.int u0]) (a := b) (dc (.invokevirtual 248, 3)) cr62_248 put_o rfl rfl (Nat.le_of_ble_eq_true rfl) (by show 1 ≤ 1; omega) rfl
theorem m62_9 : M62 9 ls (.int y :: .int x :: st) H Q = if x < y then M62 12 ls st H Q else M62 18 ls st H Q := w_icmpN (dc (.if_icmp .ge 9, 3)) (i_ge x y) rfl
theorem m62_12 : M62 12 [l0, .val (.int v1)] st H Q = if v1 < 32 then M62 20 [l0, .val (.int v1)] st H Q else M62 18 [l0, .val (.int v1)] st H Q := (w_x (dc (.iload_n 1, 1)) rfl).trans ((w_ki 32 (dc (.bipush 32, 2)) rfl).trans (w_icmp (dc (.if_icmp .lt 5, 3)) (i_lt v1 32) rfl))
theorem m62_20 : M62 20 [.val (.ref b), .val (.int v1)] st (put b e s A L B g) Q = (inB v1 (A 3) ∧ M62 26 [.val (.ref b), .val (.int v1)] (.int (getA (A 3) v1) :: st) (put b e s A L B g) Q) := (w_x (dc (.aload_n 0, 1)) rfl).trans ((w_get (dc (.getfield 84, 3)) gf_84 put_o rfl).trans ((w_x (dc (.iload_n 1, 1)) rfl).trans (w_ild (dc (.iaload, 1)) rfl put_a3)))
theorem m62_26 : M62 26 ls (.int z :: st) H Q = Q (some (.int z)) H := w_iret (dc (.ireturn, 1)) rfl
theorem m63_0 : M63 0 [.val (.ref b)] st (put b e s A L B g) Q = if (s 24) = 1 then M63 8 [.val (.ref b)] st (put b e s A L B g) Q else M63 15 [.val (.ref b)] st (put b e s A L B g) Q := (w_x (dc (.aload_n 0, 1)) rfl).trans ((w_get (dc (.getfield 221, 3)) gf_221 put_o rfl).trans ((w_ki 1 (dc (.iconst 1, 1)) rfl).trans (w_icmpN (dc (.if_icmp .ne 10, 3)) (i_ne (s 24) 1) rfl)))
theorem m63_8 : M63 8 [.val (.ref b)] st (put b e s A L B g) Q = M63 16 [.val (.ref b)] (.int (s 26) :: st) (put b e s A L B g) Q := (w_x (dc (.aload_n 0, 1)) rfl).trans ((w_get (dc (.getfield 227, 3)) gf_227 put_o rfl).trans (w_x (dc (.goto 4, 3)) rfl))
theorem m63_16 : M63 16 ls (.int z :: st) H Q = Q (some (.int z)) H := w_iret (dc (.ireturn, 1)) rfl
theorem m64_0 : M64 0 [.val (.ref b)] st (put b e s A L B g) Q = if (s 24) = 1 then M64 8 [.val (.ref b)] st (put b e s A L B g) Q else M64 15 [.val (.ref b)] st (put b e s A L B g) Q := (w_x (dc (.aload_n 0, 1)) rfl).trans ((w_get (dc (.getfield 221, 3)) gf_221 put_o rfl).trans ((w_ki 1 (dc (.iconst 1, 1)) rfl).trans (w_icmpN (dc (.if_icmp .ne 10, 3)) (i_ne (s 24) 1) rfl)))
theorem m64_8 : M64 8 [.val (.ref b)] st (put b e s A L B g) Q = M64 16 [.val (.ref b)] (.int (s 28) :: st) (put b e s A L B g) Q := (w_x (dc (.aload_n 0, 1)) rfl).trans ((w_get (dc (.getfield 230, 3)) gf_230 put_o rfl).trans (w_x (dc (.goto 4, 3)) rfl))
theorem m64_16 : M64 16 ls (.int z :: st) H Q = Q (some (.int z)) H := w_iret (dc (.ireturn, 1)) rfl
theorem m65_0 : M65 0 [l0, .val (.int v1)] st H Q = if v1 < 0 then M65 18 [l0, .val (.int v1)] st H Q else M65 4 [l0, .val (.int v1)] st H Q := (w_x (dc (.iload_n 1, 1)) rfl).trans (w_if (dc (.ifCond .lt 17, 3)) (z_lt v1) rfl)
theorem m65_4 : M65 4 [.val (.ref b), .val (.int v1)] st H Q = M65 6 [.val (.ref b), .val (.int v1)] (.ref b :: .int v1 :: st) H Q := (w_x (dc (.iload_n 1, 1)) rfl).trans (w_x (dc (.aload_n 0, 1)) rfl)
theorem cr65_252 : vR tables_1 dn y65 252 = some (false, y64, prog_1_method_11_code, 1, (some .int), 0, 1) := vR_of (cR_of (by decide +kernel) rc_64 dn_64 dn_65 (sig := ⟨[], some .int⟩) (by decide +kernel) (by decide +kernel) rfl rfl) (by decide +kernel) (by decide +kernel) (by decide +kernel)
theorem m65_6 (u0 : Int32) : M65 6 ls [.ref b, .int u0] (put b e s A L B g) Q = M64 0 [.val (.ref b)] [] (put b e s A L B g) (fun v H1 => M65 9 ls (v.toList ++ [.int u0]) H1 Q) := w_virt (as := []) (rest := [.int u0]) (a := b) (dc (.invokevirtual 252, 3)) cr65_252 put_o rfl rfl (Nat.le_of_ble_eq_true rfl) (by show 1 ≤ 1; omega) rfl
theorem m65_9 : M65 9 ls (.int y :: .int x :: st) H Q = if x < y then M65 12 ls st H Q else M65 18 ls st H Q := w_icmpN (dc (.if_icmp .ge 9, 3)) (i_ge x y) rfl
theorem m65_12 : M65 12 [l0, .val (.int v1)] st H Q = if v1 < 16 then M65 20 [l0, .val (.int v1)] st H Q else M65 18 [l0, .val (.int v1)] st H Q := (w_x (dc (.iload_n 1, 1)) rfl).trans ((w_ki 16 (dc (.bipush 16, 2)) rfl).trans (w_icmp (dc (.if_icmp .lt 5, 3)) (i_lt v1 16) rfl))
theorem m65_20 : M65 20 [.val (.ref b), .val (.int v1)] st (put b e s A L B g) Q = (inB v1 (A 4) ∧ M65 26 [.val (.ref b), .val (.int v1)] (.int (getA (A 4) v1) :: st) (put b e s A L B g) Q) := (w_x (dc (.aload_n 0, 1)) rfl).trans ((w_get (dc (.getfield 91, 3)) gf_91 put_o rfl).trans ((w_x (dc (.iload_n 1, 1)) rfl).trans (w_ild (dc (.iaload, 1)) rfl put_a4)))
theorem m65_26 : M65 26 ls (.int z :: st) H Q = Q (some (.int z)) H := w_iret (dc (.ireturn, 1)) rfl
theorem m66_0 : M66 0 [l0, .val (.int v1), l2, l3] st H Q = if v1 < 0 then M66 18 [l0, .val (.int v1), l2, l3] st H Q else M66 4 [l0, .val (.int v1), l2, l3] st H Q := (w_x (dc (.iload_n 1, 1)) rfl).trans (w_if (dc (.ifCond .lt 17, 3)) (z_lt v1) rfl)
theorem m66_4 : M66 4 [.val (.ref b), .val (.int v1), l2, l3] st H Q = M66 6 [.val (.ref b), .val (.int v1), l2, l3] (.ref b :: .int v1 :: st) H Q := (w_x (dc (.iload_n 1, 1)) rfl).trans (w_x (dc (.aload_n 0, 1)) rfl)
theorem cr66_252 : vR tables_1 dn y66 252 = some (false, y64, prog_1_method_11_code, 1, (some .int), 0, 6) := vR_of (cR_of (by decide +kernel) rc_64 dn_64 dn_66 (sig := ⟨[], some .int⟩) (by decide +kernel) (by decide +kernel) rfl rfl) (by decide +kernel) (by decide +kernel) (by decide +kernel)
theorem m66_6 (u0 : Int32) : M66 6 ls [.ref b, .int u0] (put b e s A L B g) Q = M64 0 [.val (.ref b)] [] (put b e s A L B g) (fun v H1 => M66 9 ls (v.toList ++ [.int u0]) H1 Q) := w_virt (as := []) (rest := [.int u0]) (a := b) (dc (.invokevirtual 252, 3)) cr66_252 put_o rfl rfl (Nat.le_of_ble_eq_true rfl) (by show 1 ≤ 1; omega) rfl
theorem m66_9 : M66 9 ls (.int y :: .int x :: st) H Q = if x < y then M66 12 ls st H Q else M66 18 ls st H Q := w_icmpN (dc (.if_icmp .ge 9, 3)) (i_ge x y) rfl
theorem m66_12 : M66 12 [l0, .val (.int v1), l2, l3] st H Q = if v1 < 16 then M66 20 [l0, .val (.int v1), l2, l3] st H Q else M66 18 [l0, .val (.int v1), l2, l3] st H Q := (w_x (dc (.iload_n 1, 1)) rfl).trans ((w_ki 16 (dc (.bipush 16, 2)) rfl).trans (w_icmp (dc (.if_icmp .lt 5, 3)) (i_lt v1 16) rfl))
theorem m66_20 : M66 20 [.val (.ref b), .val (.int v1), l2, l3] st (put b e s A L B g) Q = (inB v1 (B 0) ∧ M66 27 [.val (.ref b), .val (.int v1), l2, l3] (.long (getL (B 0) v1) :: .ref b :: st) (put b e s A L B g) Q) := (w_x (dc (.aload_n 0, 1)) rfl).trans ((w_x (dc (.aload_n 0, 1)) rfl).trans ((w_get (dc (.getfield 87, 3)) gf_87 put_o rfl).trans ((w_x (dc (.iload_n 1, 1)) rfl).trans (w_lld (dc (.laload, 1)) put_l0))))
theorem cr66_255 : vR tables_1 dn y66 255 = some (true, y56, prog_1_method_30_code, 7, (some .int), 1, 0) := pR_of (cR_of (by decide +kernel) rc_56 dn_56 dn_66 (sig := ⟨[.long], some .int⟩) (by decide +kernel) (by decide +kernel) rfl rfl) (by decide +kernel) (by decide +kernel)
theorem m66_27 (a0 : Int64) : M66 27 ls [.long a0, .ref b] (put b e s A L B g) Q = M56 0 [.val (.ref b), .val (.long a0), .second, .unset, .unset, .unset, .unset] [] (put b e s A L B g) (fun v H1 => M66 30 ls (v.toList ++ []) H1 Q) := w_virt (as := [.long a0]) (rest := []) (a := b) (dc (.invokevirtual 255, 3)) cr66_255 put_o rfl rfl (Nat.le_of_ble_eq_true rfl) (by show 3 ≤ 7; omega) rfl
theorem m66_30u : M66 30 [l0, l1, l2, .unset] ((.int v) :: st) H Q = M66 31 [l0, l1, l2, .val (.int v)] st H Q := w_st (i := 3) (p := isI) (dc (.istore_n 3, 1)) rfl rfl rfl rfl rfl rfl
theorem m66_31 : M66 31 [l0, l1, .val (.int v2), l3] st H Q = if v2 < 0 then M66 40 [l0, l1, .val (.int v2), l3] st H Q else M66 35 [l0, l1, .val (.int v2), l3] st H Q := (w_x (dc (.iload_n 2, 1)) rfl).trans (w_if (dc (.ifCond .lt 8, 3)) (z_lt v2) rfl)
theorem m66_35 : M66 35 [l0, l1, .val (.int v2), .val (.int v3)] st H Q = if v2 < v3 then M66 42 [l0, l1, .val (.int v2), .val (.int v3)] st H Q else M66 40 [l0, l1, .val (.int v2), .val (.int v3)] st H Q := (w_x (dc (.iload_n 2, 1)) rfl).trans ((w_x (dc (.iload_n 3, 1)) rfl).trans (w_icmp (dc (.if_icmp .lt 5, 3)) (i_lt v2 v3) rfl))
theorem m66_42 : M66 42 [.val (.ref b), .val (.int v1), l2, l3] st (put b e s A L B g) Q = (inB v1 (B 0) ∧ M66 49 [.val (.ref b), .val (.int v1), l2, l3] (.long (getL (B 0) v1) :: .ref b :: st) (put b e s A L B g) Q) := (w_x (dc (.aload_n 0, 1)) rfl).trans ((w_x (dc (.aload_n 0, 1)) rfl).trans ((w_get (dc (.getfield 87, 3)) gf_87 put_o rfl).trans ((w_x (dc (.iload_n 1, 1)) rfl).trans (w_lld (dc (.laload, 1)) put_l0))))
theorem m66_49 : M66 49 [l0, l1, .val (.int v2), .val (.int v3)] st H Q = M66 51 [l0, l1, .val (.int v2), .val (.int v3)] (.int v3 :: .int v2 :: st) H Q := (w_x (dc (.iload_n 2, 1)) rfl).trans (w_x (dc (.iload_n 3, 1)) rfl)
theorem cr66_259 : vR tables_1 dn y66 259 = some (true, y57, prog_1_method_31_code, 5, (some .int), 3, 2) := pR_of (cR_of (by decide +kernel) rc_57 dn_57 dn_66 (sig := ⟨[.long, .int, .int], some .int⟩) (by decide +kernel) (by decide +kernel) rfl rfl) (by decide +kernel) (by decide +kernel)
theorem m66_51 (a0 : Int64) (a1 : Int32) (a2 : Int32) : M66 51 ls [.int a2, .int a1, .long a0, .ref b] (put b e s A L B g) Q = M57 0 [.val (.ref b), .val (.long a0), .second, .val (.int a1), .val (.int a2)] [] (put b e s A L B g) (fun v H1 => M66 54 ls (v.toList ++ []) H1 Q) := w_virt (as := [.int a2, .int a1, .long a0]) (rest := []) (a := b) (dc (.invokevirtual 259, 3)) cr66_259 put_o rfl rfl (Nat.le_of_ble_eq_true rfl) (by show 5 ≤ 5; omega) rfl
theorem m66_54 : M66 54 ls (.int z :: st) H Q = Q (some (.int z)) H := w_iret (dc (.ireturn, 1)) rfl
theorem m67_0 : M67 0 [.val (.ref b)] st (put b e s A L B g) Q = if (s 24) = 1 then M67 8 [.val (.ref b)] st (put b e s A L B g) Q else M67 15 [.val (.ref b)] st (put b e s A L B g) Q := (w_x (dc (.aload_n 0, 1)) rfl).trans ((w_get (dc (.getfield 221, 3)) gf_221 put_o rfl).trans ((w_ki 1 (dc (.iconst 1, 1)) rfl).trans (w_icmpN (dc (.if_icmp .ne 10, 3)) (i_ne (s 24) 1) rfl)))
theorem m67_8 : M67 8 [.val (.ref b)] st (put b e s A L B g) Q = M67 16 [.val (.ref b)] (.int (s 27) :: st) (put b e s A L B g) Q := (w_x (dc (.aload_n 0, 1)) rfl).trans ((w_get (dc (.getfield 233, 3)) gf_233 put_o rfl).trans (w_x (dc (.goto 4, 3)) rfl))
theorem m67_16 : M67 16 ls (.int z :: st) H Q = Q (some (.int z)) H := w_iret (dc (.ireturn, 1)) rfl
theorem m68_0 : M68 0 [.val (.ref b)] st (put b e s A L B g) Q = if (s 24) = 2 then M68 8 [.val (.ref b)] st (put b e s A L B g) Q else M68 15 [.val (.ref b)] st (put b e s A L B g) Q := (w_x (dc (.aload_n 0, 1)) rfl).trans ((w_get (dc (.getfield 221, 3)) gf_221 put_o rfl).trans ((w_ki 2 (dc (.iconst 2, 1)) rfl).trans (w_icmpN (dc (.if_icmp .ne 10, 3)) (i_ne (s 24) 2) rfl)))
theorem m68_15 : M68 15 ls st H Q = M68 16 ls (.int 0 :: st) H Q := w_con (dc (.iconst 0, 1)) rfl (by decide)
theorem m68_16 : M68 16 ls (.int z :: st) H Q = Q (some (.int z)) H := w_iret (dc (.ireturn, 1)) rfl
theorem m69_0 : M69 0 ls st H Q = M69 3 ls (.long 8269 :: st) H Q := w_ldc2 (dc (.ldc2_w 13, 3)) (by decide +kernel)
theorem m69_3 : M69 3 [l0, .unset, .unset] (.long J1 :: st) H Q = M69 4 [l0, .val (.long J1), .second] st H Q := w_x (dc (.lstore_n 1, 1)) rfl
theorem m69_4 : M69 4 [.val (.int v0), .val (.long w1), l2] st H Q = M69 10 [.val (.int v0), .val (.long w1), l2] (.int 100 :: .int v0 :: .int 48 :: .long w1 :: st) H Q := (w_x (dc (.lload_n 1, 1)) rfl).trans ((w_ki 48 (dc (.bipush 48, 2)) rfl).trans ((w_x (dc (.iload_n 0, 1)) rfl).trans (w_ki 100 (dc (.bipush 100, 2)) rfl)))
theorem m69_10 : M69 10 ls (.int y :: .int x :: st) H Q = (y ≠ 0 ∧ M69 11 ls (.int (x / y) :: st) H Q) := w_div (f := fun x y => x / y) (dc (.idiv, 1)) (fun _ => rfl) rfl rfl
theorem m69_11 : M69 11 ls (.int y :: .int x :: st) H Q = M69 12 ls (.int (x + y) :: st) H Q := w_x (dc (.iadd, 1)) rfl
theorem m69_12 : M69 12 ls (.int x :: st) H Q = M69 13 ls (.long x.toInt64 :: st) H Q := w_x (dc (.i2l, 1)) rfl
theorem m69_13 : M69 13 ls st H Q = M69 15 ls (.int 16 :: st) H Q := w_con (dc (.bipush 16, 2)) rfl (by decide)
theorem m69_15 : M69 15 ls (.int y :: .long J1 :: st) H Q = M69 16 ls (.long (J1 <<< (y.toInt64 &&& 63)) :: st) H Q := w_x (dc (.lshl, 1)) rfl
theorem m69_16 : M69 16 ls (.long J2 :: .long J1 :: st) H Q = M69 17 ls (.long (J1 ||| J2) :: st) H Q := w_x (dc (.lor, 1)) rfl
theorem m69_17 : M69 17 [l0, .val (.long J2), .second] (.long J1 :: st) H Q = M69 18 [l0, .val (.long J1), .second] st H Q := w_x (dc (.lstore_n 1, 1)) rfl
theorem m69_18 : M69 18 [.val (.int v0), .val (.long w1), l2] st H Q = M69 24 [.val (.int v0), .val (.long w1), l2] (.int 10 :: .int v0 :: .int 48 :: .long w1 :: st) H Q := (w_x (dc (.lload_n 1, 1)) rfl).trans ((w_ki 48 (dc (.bipush 48, 2)) rfl).trans ((w_x (dc (.iload_n 0, 1)) rfl).trans (w_ki 10 (dc (.bipush 10, 2)) rfl)))
theorem m69_24 : M69 24 ls (.int y :: .int x :: st) H Q = (y ≠ 0 ∧ M69 25 ls (.int (x / y) :: st) H Q) := w_div (f := fun x y => x / y) (dc (.idiv, 1)) (fun _ => rfl) rfl rfl
theorem m69_25 : M69 25 ls st H Q = M69 27 ls (.int 10 :: st) H Q := w_con (dc (.bipush 10, 2)) rfl (by decide)
theorem m69_27 : M69 27 ls (.int y :: .int x :: st) H Q = (y ≠ 0 ∧ M69 28 ls (.int (x % y) :: st) H Q) := w_div (f := fun x y => x % y) (dc (.irem, 1)) (fun _ => rfl) rfl rfl
theorem m69_28 : M69 28 ls (.int y :: .int x :: st) H Q = M69 29 ls (.int (x + y) :: st) H Q := w_x (dc (.iadd, 1)) rfl
theorem m69_29 : M69 29 ls (.int x :: st) H Q = M69 30 ls (.long x.toInt64 :: st) H Q := w_x (dc (.i2l, 1)) rfl
theorem m69_30 : M69 30 ls st H Q = M69 32 ls (.int 24 :: st) H Q := w_con (dc (.bipush 24, 2)) rfl (by decide)
theorem m69_32 : M69 32 ls (.int y :: .long J1 :: st) H Q = M69 33 ls (.long (J1 <<< (y.toInt64 &&& 63)) :: st) H Q := w_x (dc (.lshl, 1)) rfl
theorem m69_33 : M69 33 ls (.long J2 :: .long J1 :: st) H Q = M69 34 ls (.long (J1 ||| J2) :: st) H Q := w_x (dc (.lor, 1)) rfl
theorem m69_34 : M69 34 [l0, .val (.long J2), .second] (.long J1 :: st) H Q = M69 35 [l0, .val (.long J1), .second] st H Q := w_x (dc (.lstore_n 1, 1)) rfl
theorem m69_35 : M69 35 [.val (.int v0), .val (.long w1), l2] st H Q = M69 41 [.val (.int v0), .val (.long w1), l2] (.int 10 :: .int v0 :: .int 48 :: .long w1 :: st) H Q := (w_x (dc (.lload_n 1, 1)) rfl).trans ((w_ki 48 (dc (.bipush 48, 2)) rfl).trans ((w_x (dc (.iload_n 0, 1)) rfl).trans (w_ki 10 (dc (.bipush 10, 2)) rfl)))
theorem m69_41 : M69 41 ls (.int y :: .int x :: st) H Q = (y ≠ 0 ∧ M69 42 ls (.int (x % y) :: st) H Q) := w_div (f := fun x y => x % y) (dc (.irem, 1)) (fun _ => rfl) rfl rfl
theorem m69_42 : M69 42 ls (.int y :: .int x :: st) H Q = M69 43 ls (.int (x + y) :: st) H Q := w_x (dc (.iadd, 1)) rfl
theorem m69_43 : M69 43 ls (.int x :: st) H Q = M69 44 ls (.long x.toInt64 :: st) H Q := w_x (dc (.i2l, 1)) rfl
theorem m69_44 : M69 44 ls st H Q = M69 46 ls (.int 32 :: st) H Q := w_con (dc (.bipush 32, 2)) rfl (by decide)
theorem m69_46 : M69 46 ls (.int y :: .long J1 :: st) H Q = M69 47 ls (.long (J1 <<< (y.toInt64 &&& 63)) :: st) H Q := w_x (dc (.lshl, 1)) rfl
theorem m69_47 : M69 47 ls (.long J2 :: .long J1 :: st) H Q = M69 48 ls (.long (J1 ||| J2) :: st) H Q := w_x (dc (.lor, 1)) rfl
theorem m69_48 : M69 48 [l0, .val (.long J2), .second] (.long J1 :: st) H Q = M69 49 [l0, .val (.long J1), .second] st H Q := w_x (dc (.lstore_n 1, 1)) rfl
theorem m69_49 : M69 49 [l0, .val (.long w1), l2] st H Q = M69 54 [l0, .val (.long w1), l2] (.long (w1 ||| 10995116277760) :: st) H Q := (w_x (dc (.lload_n 1, 1)) rfl).trans ((w_ldc2 (v := 10995116277760) (dc (.ldc2_w 15, 3)) (by decide +kernel)).trans (w_x (dc (.lor, 1)) rfl))
theorem m69_54 : M69 54 ls [.long J1] H Q = Q (some (.long J1)) H := w_lret (dc (.lreturn, 1)) rfl
theorem m70_0 : M70 0 [l0, l1, .val (.int v2), l3] st H Q = if 15 < v2 then M70 26 [l0, l1, .val (.int v2), l3] st H Q else M70 6 [l0, l1, .val (.int v2), l3] st H Q := (w_x (dc (.iload_n 2, 1)) rfl).trans ((w_ki 15 (dc (.bipush 15, 2)) rfl).trans (w_icmp (dc (.if_icmp .gt 23, 3)) (i_gt v2 15) rfl))
theorem m70_6 : M70 6 [.val (.ref r), l1, l2, l3] st H Q = M70 7 [.val (.ref r), l1, l2, l3] (.ref r :: st) H Q := w_x (dc (.aload_n 0, 1)) rfl
theorem m70_7 : M70 7 [l0, .val (.int v), l2, l3] st H Q = M70 8 [l0, .val (.int v), l2, l3] (.int v :: st) H Q := w_x (dc (.iload_n 1, 1)) rfl
theorem cr70_7 : vR tables_1 dn y70 7 = some (false, y62, prog_1_method_10_code, 2, (some .int), 1, 0) := vR_of (cR_of (by decide +kernel) rc_62 dn_62 dn_70 (sig := ⟨[.int], some .int⟩) (by decide +kernel) (by decide +kernel) rfl rfl) (by decide +kernel) (by decide +kernel) (by decide +kernel)
theorem m70_8 (a0 : Int32) : M70 8 ls [.int a0, .ref b] (put b e s A L B g) Q = M62 0 [.val (.ref b), .val (.int a0)] [] (put b e s A L B g) (fun v H1 => M70 11 ls (v.toList ++ []) H1 Q) := w_virt (as := [.int a0]) (rest := []) (a := b) (dc (.invokevirtual 7, 3)) cr70_7 put_o rfl rfl (Nat.le_of_ble_eq_true rfl) (by show 2 ≤ 2; omega) rfl
theorem m70_11 : M70 11 [l0, l1, .val (.int v2), l3] st H Q = M70 15 [l0, l1, .val (.int v2), l3] (.int (16 + v2) :: st) H Q := (w_ki 16 (dc (.bipush 16, 2)) rfl).trans ((w_x (dc (.iload_n 2, 1)) rfl).trans (w_x (dc (.iadd, 1)) rfl))
theorem m70_15 : M70 15 ls (.int y :: .int x :: st) H Q = if x = y then M70 18 ls st H Q else M70 24 ls st H Q := w_icmpN (dc (.if_icmp .ne 9, 3)) (i_ne x y) rfl
theorem m70_18 : M70 18 [l0, .val (.int v1), l2, l3] st H Q = M70 25 [l0, .val (.int v1), l2, l3] (.int (v1 + 1) :: st) H Q := (w_x (dc (.iload_n 1, 1)) rfl).trans ((w_ki 1 (dc (.iconst 1, 1)) rfl).trans ((w_x (dc (.iadd, 1)) rfl).trans (w_x (dc (.goto 4, 3)) rfl)))
theorem m70_25 : M70 25 ls (.int z :: st) H Q = Q (some (.int z)) H := w_iret (dc (.ireturn, 1)) rfl
theorem m70_26 : M70 26 [.val (.ref r), l1, l2, l3] st H Q = M70 27 [.val (.ref r), l1, l2, l3] (.ref r :: st) H Q := w_x (dc (.aload_n 0, 1)) rfl
theorem m70_27 : M70 27 [l0, .val (.int v), l2, l3] st H Q = M70 28 [l0, .val (.int v), l2, l3] (.int v :: st) H Q := w_x (dc (.iload_n 1, 1)) rfl
theorem m70_28 (a0 : Int32) : M70 28 ls [.int a0, .ref b] (put b e s A L B g) Q = M62 0 [.val (.ref b), .val (.int a0)] [] (put b e s A L B g) (fun v H1 => M70 31 ls (v.toList ++ []) H1 Q) := w_virt (as := [.int a0]) (rest := []) (a := b) (dc (.invokevirtual 7, 3)) cr70_7 put_o rfl rfl (Nat.le_of_ble_eq_true rfl) (by show 2 ≤ 2; omega) rfl
theorem m70_31 : M70 31 ls st H Q = M70 34 ls (.int 129 :: st) H Q := w_con (dc (.sipush 129, 3)) rfl (by decide)
theorem m70_34 : M70 34 ls (.int y :: .int x :: st) H Q = if x = y then M70 39 ls st H Q else M70 37 ls st H Q := w_icmp (dc (.if_icmp .eq 5, 3)) (i_eq x y) rfl
theorem m70_39 : M70 39 [.val (.ref r), l1, l2, l3] st H Q = M70 40 [.val (.ref r), l1, l2, l3] (.ref r :: st) H Q := w_x (dc (.aload_n 0, 1)) rfl
theorem m70_40 : M70 40 [l0, .val (.int v1), l2, l3] st H Q = M70 43 [l0, .val (.int v1), l2, l3] (.int (v1 + 1) :: st) H Q := (w_x (dc (.iload_n 1, 1)) rfl).trans ((w_ki 1 (dc (.iconst 1, 1)) rfl).trans (w_x (dc (.iadd, 1)) rfl))
theorem m70_43 (a0 : Int32) : M70 43 ls [.int a0, .ref b] (put b e s A L B g) Q = M62 0 [.val (.ref b), .val (.int a0)] [] (put b e s A L B g) (fun v H1 => M70 46 ls (v.toList ++ []) H1 Q) := w_virt (as := [.int a0]) (rest := []) (a := b) (dc (.invokevirtual 7, 3)) cr70_7 put_o rfl rfl (Nat.le_of_ble_eq_true rfl) (by show 2 ≤ 2; omega) rfl
theorem m70_46u : M70 46 [l0, l1, l2, .unset] ((.int v) :: st) H Q = M70 47 [l0, l1, l2, .val (.int v)] st H Q := w_st (i := 3) (p := isI) (dc (.istore_n 3, 1)) rfl rfl rfl rfl rfl rfl
theorem m70_47 : M70 47 [l0, l1, .val (.int v2), .val (.int v3)] st H Q = if v3 = (v2 &&& 255) then M70 56 [l0, l1, .val (.int v2), .val (.int v3)] st H Q else M70 62 [l0, l1, .val (.int v2), .val (.int v3)] st H Q := (w_x (dc (.iload_n 3, 1)) rfl).trans ((w_x (dc (.iload_n 2, 1)) rfl).trans ((w_ki 255 (dc (.sipush 255, 3)) rfl).trans ((w_x (dc (.iand, 1)) rfl).trans (w_icmpN (dc (.if_icmp .ne 9, 3)) (i_ne v3 (v2 &&& 255)) rfl))))
theorem m70_56 : M70 56 [l0, .val (.int v1), l2, l3] st H Q = M70 63 [l0, .val (.int v1), l2, l3] (.int (v1 + 2) :: st) H Q := (w_x (dc (.iload_n 1, 1)) rfl).trans ((w_ki 2 (dc (.iconst 2, 1)) rfl).trans ((w_x (dc (.iadd, 1)) rfl).trans (w_x (dc (.goto 4, 3)) rfl)))
theorem m70_63 : M70 63 ls (.int z :: st) H Q = Q (some (.int z)) H := w_iret (dc (.ireturn, 1)) rfl
theorem m71_0 : M71 0 [l0, .val (.int v1), .val (.int v2), .unset, .unset, l5, l6, l7, l8, l9] st H Q = M71 13 [l0, .val (.int v1), .val (.int v2), .val (.int (v1 &&& 511)), .val (.int (v2 &&& 511)), l5, l6, l7, l8, l9] st H Q := (w_x at_0 rfl).trans ((w_ki 511 at_1 rfl).trans ((w_x at_4 rfl).trans ((w_st (i := 3) (p := isI) at_5 rfl rfl rfl rfl rfl rfl).trans ((w_x at_6 rfl).trans ((w_ki 511 at_7 rfl).trans ((w_x at_10 rfl).trans (w_st (i := 4) (p := isI) at_11 rfl rfl rfl rfl rfl rfl)))))))
theorem m71_13 : M71 13 ls st H Q = M71 16 ls (.ref H.length :: st) (H ++ [(.object "MacroAssembler", D0)]) Q := (w_new (C := "MacroAssembler") at_13 (by rw [hNew, show rCls tables_1 y71.cls 8 = some "MacroAssembler" from by decide +kernel]; dsimp only; rw [if_pos (by decide +kernel)])).trans (by rw [lay0]; rfl)
theorem m71_16 : M71 16 ls ((.ref r) :: st) H Q = M71 17 ls ((.ref r) :: (.ref r) :: st) H Q := w_x at_16 rfl
theorem m71_17 : M71 17 [.val (.int v), l1, l2, l3, l4, l5, l6, l7, l8, l9] st H Q = M71 18 [.val (.int v), l1, l2, l3, l4, l5, l6, l7, l8, l9] (.int v :: st) H Q := w_x at_17 rfl
theorem cr71_17 : nR tables_1 dn y71 17 = some (y0, prog_1_method_1_code, 3, none, 1, 124) := nR_of (cR_of (by decide +kernel) rc_0 dn_0 dn_71 (sig := ⟨[.int], none⟩) (by decide +kernel) (by decide +kernel) rfl rfl) rfl (by decide +kernel) rfl
theorem cr71_17_o : oR tables_1 dn y71 17 = none := by decide +kernel
theorem m71_18 (a0 : Int32) (u0 : Nat) : M71 18 ls [.int a0, .ref r, .ref u0] H Q = M0 0 [.val (.ref r), .val (.int a0), .unset] [] H (fun v H1 => M71 21 ls (v.toList ++ [.ref u0]) H1 Q) := w_spec (as := [.int a0]) (rest := [.ref u0]) (a := r) at_18 cr71_17_o cr71_17 rfl (Nat.le_of_ble_eq_true rfl) (by show 2 ≤ 3; omega) rfl
theorem m71_21u : M71 21 [l0, l1, l2, l3, l4, .unset, l6, l7, l8, l9] ((.ref r) :: st) H Q = M71 23 [l0, l1, l2, l3, l4, .val (.ref r), l6, l7, l8, l9] st H Q := w_st (i := 5) (p := Value.isRef) at_21 rfl rfl rfl rfl rfl rfl
theorem m71_23 : M71 23 [l0, l1, l2, l3, l4, .val (.ref r), l6, l7, l8, l9] st H Q = M71 25 [l0, l1, l2, l3, l4, .val (.ref r), l6, l7, l8, l9] (.ref r :: st) H Q := w_x at_23 rfl
theorem m71_25 : M71 25 ls st H Q = M71 28 ls (.long 742902912351281229 :: st) H Q := w_ldc2 at_25 (by decide +kernel)
theorem cr71_22 : vR tables_1 dn y71 22 = some (false, y1, prog_1_method_3_code, 6, (some .int), 1, 116) := vR_of (cR_of (by decide +kernel) rc_1 dn_1 dn_71 (sig := ⟨[.long], some .int⟩) (by decide +kernel) (by decide +kernel) rfl rfl) (by decide +kernel) (by decide +kernel) (by decide +kernel)
theorem m71_28 (a0 : Int64) : M71 28 ls [.long a0, .ref b] (put b e s A L B g) Q = M1 0 [.val (.ref b), .val (.long a0), .second, .unset, .unset, .unset] [] (put b e s A L B g) (fun v H1 => M71 31 ls (v.toList ++ []) H1 Q) := w_virt (as := [.long a0]) (rest := []) (a := b) at_28 cr71_22 put_o rfl rfl (Nat.le_of_ble_eq_true rfl) (by show 3 ≤ 6; omega) rfl
theorem m71_31 : M71 31 ls ((.int v) :: st) H Q = M71 32 ls st H Q := w_x at_31 rfl
theorem m71_32 : M71 32 [l0, l1, l2, l3, l4, .val (.ref r), l6, l7, l8, l9] st H Q = M71 34 [l0, l1, l2, l3, l4, .val (.ref r), l6, l7, l8, l9] (.ref r :: st) H Q := w_x at_32 rfl
theorem m71_34 : M71 34 ls st H Q = M71 37 ls (.long 2324213976448781349 :: st) H Q := w_ldc2 at_34 (by decide +kernel)
theorem m71_37 (a0 : Int64) : M71 37 ls [.long a0, .ref b] (put b e s A L B g) Q = M1 0 [.val (.ref b), .val (.long a0), .second, .unset, .unset, .unset] [] (put b e s A L B g) (fun v H1 => M71 40 ls (v.toList ++ []) H1 Q) := w_virt (as := [.long a0]) (rest := []) (a := b) at_37 cr71_22 put_o rfl rfl (Nat.le_of_ble_eq_true rfl) (by show 3 ≤ 6; omega) rfl
theorem m71_40 : M71 40 ls ((.int v) :: st) H Q = M71 41 ls st H Q := w_x at_40 rfl
theorem m71_41 : M71 41 [l0, l1, l2, l3, l4, .val (.ref r), l6, l7, l8, l9] st H Q = M71 43 [l0, l1, l2, l3, l4, .val (.ref r), l6, l7, l8, l9] (.ref r :: st) H Q := w_x at_41 rfl
theorem m71_43 : M71 43 ls st H Q = M71 46 ls (.long 667996 :: st) H Q := w_ldc2 at_43 (by decide +kernel)
theorem m71_46 (a0 : Int64) : M71 46 ls [.long a0, .ref b] (put b e s A L B g) Q = M1 0 [.val (.ref b), .val (.long a0), .second, .unset, .unset, .unset] [] (put b e s A L B g) (fun v H1 => M71 49 ls (v.toList ++ []) H1 Q) := w_virt (as := [.long a0]) (rest := []) (a := b) at_46 cr71_22 put_o rfl rfl (Nat.le_of_ble_eq_true rfl) (by show 3 ≤ 6; omega) rfl
theorem m71_49 : M71 49 ls ((.int v) :: st) H Q = M71 50 ls st H Q := w_x at_49 rfl
theorem m71_50 : M71 50 [l0, l1, l2, l3, l4, .val (.ref r), l6, l7, l8, l9] st H Q = M71 52 [l0, l1, l2, l3, l4, .val (.ref r), l6, l7, l8, l9] (.ref r :: st) H Q := w_x at_50 rfl
theorem m71_52 : M71 52 ls st H Q = M71 55 ls (.long 44245995077 :: st) H Q := w_ldc2 at_52 (by decide +kernel)
theorem m71_55 (a0 : Int64) : M71 55 ls [.long a0, .ref b] (put b e s A L B g) Q = M1 0 [.val (.ref b), .val (.long a0), .second, .unset, .unset, .unset] [] (put b e s A L B g) (fun v H1 => M71 58 ls (v.toList ++ []) H1 Q) := w_virt (as := [.long a0]) (rest := []) (a := b) at_55 cr71_22 put_o rfl rfl (Nat.le_of_ble_eq_true rfl) (by show 3 ≤ 6; omega) rfl
theorem m71_58 : M71 58 ls ((.int v) :: st) H Q = M71 59 ls st H Q := w_x at_58 rfl
theorem m71_59 : M71 59 [l0, l1, l2, .val (.int v), l4, l5, l6, l7, l8, l9] st H Q = M71 60 [l0, l1, l2, .val (.int v), l4, l5, l6, l7, l8, l9] (.int v :: st) H Q := w_x at_59 rfl
theorem cr71_32 : sR tables_1 dn y71 32 = some (y69, method_3_code, 3, (some .long), 1, 136) := sR_of (cR_of (by decide +kernel) rc_69 dn_69 dn_71 (sig := ⟨[.int], some .long⟩) (by decide +kernel) (by decide +kernel) rfl rfl) (by decide +kernel)
theorem m71_60 (a0 : Int32) : M71 60 ls [.int a0] H Q = M69 0 [.val (.int a0), .unset, .unset] [] H (fun v H1 => M71 63 ls (v.toList ++ []) H1 Q) := w_stat (as := [.int a0]) (rest := []) at_60 cr71_32 rfl (Nat.le_of_ble_eq_true rfl) (by show 1 ≤ 3; omega) rfl
theorem m71_63 : M71 63 [l0, l1, l2, l3, l4, l5, .unset, .unset, l8, l9] (.long J1 :: st) H Q = M71 65 [l0, l1, l2, l3, l4, l5, .val (.long J1), .second, l8, l9] st H Q := w_x at_63 rfl
theorem m71_65 : M71 65 [l0, l1, l2, l3, l4, .val (.ref r), l6, l7, l8, l9] st H Q = M71 67 [l0, l1, l2, l3, l4, .val (.ref r), l6, l7, l8, l9] (.ref r :: st) H Q := w_x at_65 rfl
theorem m71_67 : M71 67 [l0, l1, l2, l3, l4, l5, .val (.long J1), l7, l8, l9] st H Q = M71 69 [l0, l1, l2, l3, l4, l5, .val (.long J1), l7, l8, l9] (.long J1 :: st) H Q := w_x at_67 rfl
theorem m71_69 (a0 : Int64) : M71 69 ls [.long a0, .ref b] (put b e s A L B g) Q = M1 0 [.val (.ref b), .val (.long a0), .second, .unset, .unset, .unset] [] (put b e s A L B g) (fun v H1 => M71 72 ls (v.toList ++ []) H1 Q) := w_virt (as := [.long a0]) (rest := []) (a := b) at_69 cr71_22 put_o rfl rfl (Nat.le_of_ble_eq_true rfl) (by show 3 ≤ 6; omega) rfl
theorem m71_72 : M71 72 ls ((.int v) :: st) H Q = M71 73 ls st H Q := w_x at_72 rfl
theorem m71_73 : M71 73 [l0, l1, l2, l3, .val (.int v), l5, l6, l7, l8, l9] st H Q = M71 75 [l0, l1, l2, l3, .val (.int v), l5, l6, l7, l8, l9] (.int v :: st) H Q := w_x at_73 rfl
theorem m71_75 (a0 : Int32) : M71 75 ls [.int a0] H Q = M69 0 [.val (.int a0), .unset, .unset] [] H (fun v H1 => M71 78 ls (v.toList ++ []) H1 Q) := w_stat (as := [.int a0]) (rest := []) at_75 cr71_32 rfl (Nat.le_of_ble_eq_true rfl) (by show 1 ≤ 3; omega) rfl
theorem m71_78 : M71 78 [l0, l1, l2, l3, l4, l5, .val (.long J2), .second, l8, l9] (.long J1 :: st) H Q = M71 80 [l0, l1, l2, l3, l4, l5, .val (.long J1), .second, l8, l9] st H Q := w_x at_78 rfl
theorem m71_80 : M71 80 [l0, l1, l2, l3, l4, .val (.ref r), l6, l7, l8, l9] st H Q = M71 82 [l0, l1, l2, l3, l4, .val (.ref r), l6, l7, l8, l9] (.ref r :: st) H Q := w_x at_80 rfl
theorem m71_82 : M71 82 [l0, l1, l2, l3, l4, l5, .val (.long J1), l7, l8, l9] st H Q = M71 84 [l0, l1, l2, l3, l4, l5, .val (.long J1), l7, l8, l9] (.long J1 :: st) H Q := w_x at_82 rfl
theorem m71_84 (a0 : Int64) : M71 84 ls [.long a0, .ref b] (put b e s A L B g) Q = M1 0 [.val (.ref b), .val (.long a0), .second, .unset, .unset, .unset] [] (put b e s A L B g) (fun v H1 => M71 87 ls (v.toList ++ []) H1 Q) := w_virt (as := [.long a0]) (rest := []) (a := b) at_84 cr71_22 put_o rfl rfl (Nat.le_of_ble_eq_true rfl) (by show 3 ≤ 6; omega) rfl
theorem m71_87 : M71 87 ls ((.int v) :: st) H Q = M71 88 ls st H Q := w_x at_87 rfl
theorem m71_88 : M71 88 [l0, l1, l2, l3, l4, .val (.ref r), l6, l7, l8, l9] st H Q = M71 90 [l0, l1, l2, l3, l4, .val (.ref r), l6, l7, l8, l9] (.ref r :: st) H Q := w_x at_88 rfl
theorem m71_90 : M71 90 ls st H Q = M71 93 ls (.long 2870134647577162 :: st) H Q := w_ldc2 at_90 (by decide +kernel)
theorem m71_93 (a0 : Int64) : M71 93 ls [.long a0, .ref b] (put b e s A L B g) Q = M1 0 [.val (.ref b), .val (.long a0), .second, .unset, .unset, .unset] [] (put b e s A L B g) (fun v H1 => M71 96 ls (v.toList ++ []) H1 Q) := w_virt (as := [.long a0]) (rest := []) (a := b) at_93 cr71_22 put_o rfl rfl (Nat.le_of_ble_eq_true rfl) (by show 3 ≤ 6; omega) rfl
theorem m71_96 : M71 96 ls ((.int v) :: st) H Q = M71 97 ls st H Q := w_x at_96 rfl
theorem m71_97 : M71 97 [l0, l1, l2, l3, l4, .val (.ref r), l6, l7, l8, l9] st H Q = M71 99 [l0, l1, l2, l3, l4, .val (.ref r), l6, l7, l8, l9] (.ref r :: st) H Q := w_x at_97 rfl
theorem m71_99 : M71 99 ls st H Q = M71 102 ls (.long 11292011154762 :: st) H Q := w_ldc2 at_99 (by decide +kernel)
theorem m71_102 (a0 : Int64) : M71 102 ls [.long a0, .ref b] (put b e s A L B g) Q = M1 0 [.val (.ref b), .val (.long a0), .second, .unset, .unset, .unset] [] (put b e s A L B g) (fun v H1 => M71 105 ls (v.toList ++ []) H1 Q) := w_virt (as := [.long a0]) (rest := []) (a := b) at_102 cr71_22 put_o rfl rfl (Nat.le_of_ble_eq_true rfl) (by show 3 ≤ 6; omega) rfl
theorem m71_105 : M71 105 ls ((.int v) :: st) H Q = M71 106 ls st H Q := w_x at_105 rfl
theorem m71_106 : M71 106 [l0, l1, l2, l3, l4, .val (.ref r), l6, l7, l8, l9] st H Q = M71 108 [l0, l1, l2, l3, l4, .val (.ref r), l6, l7, l8, l9] (.ref r :: st) H Q := w_x at_106 rfl
theorem m71_108 : M71 108 ls st H Q = M71 111 ls (.long 92686604319301 :: st) H Q := w_ldc2 at_108 (by decide +kernel)
theorem m71_111 (a0 : Int64) : M71 111 ls [.long a0, .ref b] (put b e s A L B g) Q = M1 0 [.val (.ref b), .val (.long a0), .second, .unset, .unset, .unset] [] (put b e s A L B g) (fun v H1 => M71 114 ls (v.toList ++ []) H1 Q) := w_virt (as := [.long a0]) (rest := []) (a := b) at_111 cr71_22 put_o rfl rfl (Nat.le_of_ble_eq_true rfl) (by show 3 ≤ 6; omega) rfl
theorem m71_114 : M71 114 ls ((.int v) :: st) H Q = M71 115 ls st H Q := w_x at_114 rfl
theorem m71_115 : M71 115 [l0, l1, l2, l3, l4, .val (.ref r), l6, l7, l8, l9] st H Q = M71 117 [l0, l1, l2, l3, l4, .val (.ref r), l6, l7, l8, l9] (.ref r :: st) H Q := w_x at_115 rfl
theorem cr71_44 : vR tables_1 dn y71 44 = some (false, y5, prog_1_method_5_code, 2, (some .int), 0, 0) := vR_of (cR_of (by decide +kernel) rc_5 dn_5 dn_71 (sig := ⟨[], some .int⟩) (by decide +kernel) (by decide +kernel) rfl rfl) (by decide +kernel) (by decide +kernel) (by decide +kernel)
theorem m71_117 : M71 117 ls [.ref b] (put b e s A L B g) Q = M5 0 [.val (.ref b), .unset] [] (put b e s A L B g) (fun v H1 => M71 120 ls (v.toList ++ []) H1 Q) := w_virt (as := []) (rest := []) (a := b) at_117 cr71_44 put_o rfl rfl (Nat.le_of_ble_eq_true rfl) (by show 1 ≤ 2; omega) rfl
theorem m71_120 : M71 120 ls st H Q = M71 121 ls (.int 1 :: st) H Q := w_con at_120 rfl (by decide)
theorem m71_121 : M71 121 ls (.int y :: .int x :: st) H Q = if x = y then M71 126 ls st H Q else M71 124 ls st H Q := w_icmp at_121 (i_eq x y) rfl
theorem m71_126 : M71 126 [l0, l1, l2, l3, l4, .val (.ref r), l6, l7, l8, l9] st H Q = M71 128 [l0, l1, l2, l3, l4, .val (.ref r), l6, l7, l8, l9] (.ref r :: st) H Q := w_x at_126 rfl
theorem m71_128 : M71 128 [l0, l1, l2, .val (.int v3), l4, l5, l6, l7, l8, l9] st H Q = M71 130 [l0, l1, l2, .val (.int v3), l4, l5, l6, l7, l8, l9] (.int v3 :: .int 0 :: st) H Q := (w_ki 0 at_128 rfl).trans (w_x at_129 rfl)
theorem cr71_48 : sR tables_1 dn y71 48 = some (y70, method_2_code, 4, (some .int), 3, 109) := sR_of (cR_of (by decide +kernel) rc_70 dn_70 dn_71 (sig := ⟨[.object "MacroAssembler", .int, .int], some .int⟩) (by decide +kernel) (by decide +kernel) rfl rfl) (by decide +kernel)
theorem m71_130 (a0 : Nat) (a1 : Int32) (a2 : Int32) : M71 130 ls [.int a2, .int a1, .ref a0] H Q = M70 0 [.val (.ref a0), .val (.int a1), .val (.int a2), .unset] [] H (fun v H1 => M71 133 ls (v.toList ++ []) H1 Q) := w_stat (as := [.int a2, .int a1, .ref a0]) (rest := []) at_130 cr71_48 rfl (Nat.le_of_ble_eq_true rfl) (by show 3 ≤ 4; omega) rfl
theorem m71_133u : M71 133 [l0, l1, l2, l3, l4, l5, l6, l7, .unset, l9] ((.int v) :: st) H Q = M71 135 [l0, l1, l2, l3, l4, l5, l6, l7, .val (.int v), l9] st H Q := w_st (i := 8) (p := isI) at_133 rfl rfl rfl rfl rfl rfl
theorem m71_135 : M71 135 [l0, l1, l2, l3, l4, l5, l6, l7, .val (.int v8), l9] st H Q = if v8 < 0 then M71 140 [l0, l1, l2, l3, l4, l5, l6, l7, .val (.int v8), l9] st H Q else M71 142 [l0, l1, l2, l3, l4, l5, l6, l7, .val (.int v8), l9] st H Q := (w_x at_135 rfl).trans (w_ifN at_137 (z_ge v8) rfl)
theorem m71_142 : M71 142 [l0, l1, l2, l3, l4, .val (.ref r), l6, l7, l8, l9] st H Q = M71 144 [l0, l1, l2, l3, l4, .val (.ref r), l6, l7, l8, l9] (.ref r :: st) H Q := w_x at_142 rfl
theorem m71_144 : M71 144 [l0, l1, l2, l3, .val (.int v4), l5, l6, l7, .val (.int v8), l9] st H Q = M71 148 [l0, l1, l2, l3, .val (.int v4), l5, l6, l7, .val (.int v8), l9] (.int v4 :: .int v8 :: st) H Q := (w_x at_144 rfl).trans (w_x at_146 rfl)
theorem m71_148 (a0 : Nat) (a1 : Int32) (a2 : Int32) : M71 148 ls [.int a2, .int a1, .ref a0] H Q = M70 0 [.val (.ref a0), .val (.int a1), .val (.int a2), .unset] [] H (fun v H1 => M71 151 ls (v.toList ++ []) H1 Q) := w_stat (as := [.int a2, .int a1, .ref a0]) (rest := []) at_148 cr71_48 rfl (Nat.le_of_ble_eq_true rfl) (by show 3 ≤ 4; omega) rfl
theorem m71_151u : M71 151 [l0, l1, l2, l3, l4, l5, l6, l7, l8, .unset] ((.int v) :: st) H Q = M71 153 [l0, l1, l2, l3, l4, l5, l6, l7, l8, .val (.int v)] st H Q := w_st (i := 9) (p := isI) at_151 rfl rfl rfl rfl rfl rfl
theorem m71_153 : M71 153 [l0, l1, l2, l3, l4, l5, l6, l7, l8, .val (.int v9)] st H Q = if v9 < 0 then M71 158 [l0, l1, l2, l3, l4, l5, l6, l7, l8, .val (.int v9)] st H Q else M71 160 [l0, l1, l2, l3, l4, l5, l6, l7, l8, .val (.int v9)] st H Q := (w_x at_153 rfl).trans (w_ifN at_155 (z_ge v9) rfl)
theorem m71_160 : M71 160 [l0, l1, l2, l3, l4, .val (.ref r), l6, l7, l8, l9] st H Q = M71 162 [l0, l1, l2, l3, l4, .val (.ref r), l6, l7, l8, l9] (.ref r :: st) H Q := w_x at_160 rfl
theorem m71_162 : M71 162 [l0, l1, l2, l3, l4, l5, l6, l7, l8, .val (.int v)] st H Q = M71 164 [l0, l1, l2, l3, l4, l5, l6, l7, l8, .val (.int v)] (.int v :: st) H Q := w_x at_162 rfl
theorem cr71_7 : vR tables_1 dn y71 7 = some (false, y62, prog_1_method_10_code, 2, (some .int), 1, 124) := vR_of (cR_of (by decide +kernel) rc_62 dn_62 dn_71 (sig := ⟨[.int], some .int⟩) (by decide +kernel) (by decide +kernel) rfl rfl) (by decide +kernel) (by decide +kernel) (by decide +kernel)
theorem m71_164 (a0 : Int32) : M71 164 ls [.int a0, .ref b] (put b e s A L B g) Q = M62 0 [.val (.ref b), .val (.int a0)] [] (put b e s A L B g) (fun v H1 => M71 167 ls (v.toList ++ []) H1 Q) := w_virt (as := [.int a0]) (rest := []) (a := b) at_164 cr71_7 put_o rfl rfl (Nat.le_of_ble_eq_true rfl) (by show 2 ≤ 2; omega) rfl
theorem m71_167 : M71 167 [l0, l1, l2, l3, l4, l5, l6, l7, .val (.int v8), l9] st H Q = M71 172 [l0, l1, l2, l3, l4, l5, l6, l7, .val (.int v8), l9] (.int (96 + v8) :: st) H Q := (w_ki 96 at_167 rfl).trans ((w_x at_169 rfl).trans (w_x at_171 rfl))
theorem m71_172 : M71 172 ls (.int y :: .int x :: st) H Q = if x = y then M71 177 ls st H Q else M71 175 ls st H Q := w_icmp at_172 (i_eq x y) rfl
theorem m71_177 : M71 177 [l0, l1, l2, l3, l4, .val (.ref r), l6, l7, l8, l9] st H Q = M71 179 [l0, l1, l2, l3, l4, .val (.ref r), l6, l7, l8, l9] (.ref r :: st) H Q := w_x at_177 rfl
theorem m71_179 : M71 179 [l0, l1, l2, l3, l4, l5, l6, l7, l8, .val (.int v9)] st H Q = M71 183 [l0, l1, l2, l3, l4, l5, l6, l7, l8, .val (.int v9)] (.int (v9 + 1) :: st) H Q := (w_x at_179 rfl).trans ((w_ki 1 at_181 rfl).trans (w_x at_182 rfl))
theorem m71_183 (a0 : Int32) : M71 183 ls [.int a0, .ref b] (put b e s A L B g) Q = M62 0 [.val (.ref b), .val (.int a0)] [] (put b e s A L B g) (fun v H1 => M71 186 ls (v.toList ++ []) H1 Q) := w_virt (as := [.int a0]) (rest := []) (a := b) at_183 cr71_7 put_o rfl rfl (Nat.le_of_ble_eq_true rfl) (by show 2 ≤ 2; omega) rfl
theorem m71_186 : M71 186 ls st H Q = M71 189 ls (.int 133 :: st) H Q := w_con at_186 rfl (by decide)
theorem m71_189 : M71 189 ls (.int y :: .int x :: st) H Q = if x = y then M71 194 ls st H Q else M71 192 ls st H Q := w_icmp at_189 (i_eq x y) rfl
theorem m71_194 : M71 194 [l0, l1, l2, l3, l4, .val (.ref r), l6, l7, l8, l9] st H Q = M71 196 [l0, l1, l2, l3, l4, .val (.ref r), l6, l7, l8, l9] (.ref r :: st) H Q := w_x at_194 rfl
theorem m71_196 : M71 196 [l0, l1, l2, l3, l4, l5, l6, l7, l8, .val (.int v9)] st H Q = M71 200 [l0, l1, l2, l3, l4, l5, l6, l7, l8, .val (.int v9)] (.int (v9 + 2) :: st) H Q := (w_x at_196 rfl).trans ((w_ki 2 at_198 rfl).trans (w_x at_199 rfl))
theorem m71_200 (a0 : Int32) : M71 200 ls [.int a0, .ref b] (put b e s A L B g) Q = M62 0 [.val (.ref b), .val (.int a0)] [] (put b e s A L B g) (fun v H1 => M71 203 ls (v.toList ++ []) H1 Q) := w_virt (as := [.int a0]) (rest := []) (a := b) at_200 cr71_7 put_o rfl rfl (Nat.le_of_ble_eq_true rfl) (by show 2 ≤ 2; omega) rfl
theorem m71_203 : M71 203 [l0, l1, l2, l3, l4, l5, l6, l7, l8, .val (.int v9)] st H Q = M71 207 [l0, l1, l2, l3, l4, l5, l6, l7, l8, .val (.int v9)] (.int (v9 + 3) :: st) H Q := (w_x at_203 rfl).trans ((w_ki 3 at_205 rfl).trans (w_x at_206 rfl))
theorem m71_207 : M71 207 ls (.int y :: .int x :: st) H Q = if x = y then M71 212 ls st H Q else M71 210 ls st H Q := w_icmp at_207 (i_eq x y) rfl
theorem m71_212 : M71 212 [l0, l1, l2, l3, l4, .val (.ref r), l6, l7, l8, l9] st H Q = M71 214 [l0, l1, l2, l3, l4, .val (.ref r), l6, l7, l8, l9] (.ref r :: st) H Q := w_x at_212 rfl
theorem m71_214 : M71 214 [l0, l1, l2, l3, l4, l5, l6, l7, l8, .val (.int v9)] st H Q = M71 218 [l0, l1, l2, l3, l4, l5, l6, l7, l8, .val (.int v9)] (.int (v9 + 3) :: st) H Q := (w_x at_214 rfl).trans ((w_ki 3 at_216 rfl).trans (w_x at_217 rfl))
theorem m71_218 (a0 : Int32) : M71 218 ls [.int a0, .ref b] (put b e s A L B g) Q = M62 0 [.val (.ref b), .val (.int a0)] [] (put b e s A L B g) (fun v H1 => M71 221 ls (v.toList ++ []) H1 Q) := w_virt (as := [.int a0]) (rest := []) (a := b) at_218 cr71_7 put_o rfl rfl (Nat.le_of_ble_eq_true rfl) (by show 2 ≤ 2; omega) rfl
theorem m71_221 : M71 221 ls st H Q = M71 222 ls (.int 1 :: st) H Q := w_con at_221 rfl (by decide)
theorem m71_222 : M71 222 ls (.int y :: .int x :: st) H Q = if x = y then M71 227 ls st H Q else M71 225 ls st H Q := w_icmp at_222 (i_eq x y) rfl
theorem m71_227 : M71 227 [l0, l1, l2, l3, l4, .val (.ref r), l6, l7, l8, l9] st H Q = M71 229 [l0, l1, l2, l3, l4, .val (.ref r), l6, l7, l8, l9] (.ref r :: st) H Q := w_x at_227 rfl
theorem cr71_52 : vR tables_1 dn y71 52 = some (false, y63, prog_1_method_9_code, 1, (some .int), 0, 138) := vR_of (cR_of (by decide +kernel) rc_63 dn_63 dn_71 (sig := ⟨[], some .int⟩) (by decide +kernel) (by decide +kernel) rfl rfl) (by decide +kernel) (by decide +kernel) (by decide +kernel)
theorem m71_229 : M71 229 ls [.ref b] (put b e s A L B g) Q = M63 0 [.val (.ref b)] [] (put b e s A L B g) (fun v H1 => M71 232 ls (v.toList ++ []) H1 Q) := w_virt (as := []) (rest := []) (a := b) at_229 cr71_52 put_o rfl rfl (Nat.le_of_ble_eq_true rfl) (by show 1 ≤ 1; omega) rfl
theorem m71_232 : M71 232 [l0, l1, l2, l3, l4, l5, l6, l7, l8, .val (.int v9)] st H Q = M71 236 [l0, l1, l2, l3, l4, l5, l6, l7, l8, .val (.int v9)] (.int (v9 + 4) :: st) H Q := (w_x at_232 rfl).trans ((w_ki 4 at_234 rfl).trans (w_x at_235 rfl))
theorem m71_236 : M71 236 ls (.int y :: .int x :: st) H Q = if x = y then M71 241 ls st H Q else M71 239 ls st H Q := w_icmp at_236 (i_eq x y) rfl
theorem m71_241 : M71 241 [l0, l1, l2, l3, l4, .val (.ref r), l6, l7, l8, l9] st H Q = M71 243 [l0, l1, l2, l3, l4, .val (.ref r), l6, l7, l8, l9] (.ref r :: st) H Q := w_x at_241 rfl
theorem cr71_55 : vR tables_1 dn y71 55 = some (false, y64, prog_1_method_11_code, 1, (some .int), 0, 138) := vR_of (cR_of (by decide +kernel) rc_64 dn_64 dn_71 (sig := ⟨[], some .int⟩) (by decide +kernel) (by decide +kernel) rfl rfl) (by decide +kernel) (by decide +kernel) (by decide +kernel)
theorem m71_243 : M71 243 ls [.ref b] (put b e s A L B g) Q = M64 0 [.val (.ref b)] [] (put b e s A L B g) (fun v H1 => M71 246 ls (v.toList ++ []) H1 Q) := w_virt (as := []) (rest := []) (a := b) at_243 cr71_55 put_o rfl rfl (Nat.le_of_ble_eq_true rfl) (by show 1 ≤ 1; omega) rfl
theorem m71_246 : M71 246 ls st H Q = M71 247 ls (.int 3 :: st) H Q := w_con at_246 rfl (by decide)
theorem m71_247 : M71 247 ls (.int y :: .int x :: st) H Q = if x = y then M71 252 ls st H Q else M71 250 ls st H Q := w_icmp at_247 (i_eq x y) rfl
theorem m71_252 : M71 252 [l0, l1, l2, l3, l4, .val (.ref r), l6, l7, l8, l9] st H Q = M71 254 [l0, l1, l2, l3, l4, .val (.ref r), l6, l7, l8, l9] (.ref r :: st) H Q := w_x at_252 rfl
theorem m71_254 : M71 254 ls st H Q = M71 255 ls (.int 0 :: st) H Q := w_con at_254 rfl (by decide)
theorem cr71_58 : vR tables_1 dn y71 58 = some (false, y65, prog_1_method_12_code, 2, (some .int), 1, 124) := vR_of (cR_of (by decide +kernel) rc_65 dn_65 dn_71 (sig := ⟨[.int], some .int⟩) (by decide +kernel) (by decide +kernel) rfl rfl) (by decide +kernel) (by decide +kernel) (by decide +kernel)
theorem m71_255 (a0 : Int32) : M71 255 ls [.int a0, .ref b] (put b e s A L B g) Q = M65 0 [.val (.ref b), .val (.int a0)] [] (put b e s A L B g) (fun v H1 => M71 258 ls (v.toList ++ []) H1 Q) := w_virt (as := [.int a0]) (rest := []) (a := b) at_255 cr71_58 put_o rfl rfl (Nat.le_of_ble_eq_true rfl) (by show 2 ≤ 2; omega) rfl
theorem m71_258 : M71 258 ls (.int x :: st) H Q = if x = 0 then M71 261 ls st H Q else M71 285 ls st H Q := w_ifN at_258 (z_ne x) rfl
theorem m71_261 : M71 261 [l0, l1, l2, l3, l4, .val (.ref r), l6, l7, l8, l9] st H Q = M71 263 [l0, l1, l2, l3, l4, .val (.ref r), l6, l7, l8, l9] (.ref r :: st) H Q := w_x at_261 rfl
theorem m71_263 : M71 263 ls st H Q = M71 264 ls (.int 1 :: st) H Q := w_con at_263 rfl (by decide)
theorem m71_264 (a0 : Int32) : M71 264 ls [.int a0, .ref b] (put b e s A L B g) Q = M65 0 [.val (.ref b), .val (.int a0)] [] (put b e s A L B g) (fun v H1 => M71 267 ls (v.toList ++ []) H1 Q) := w_virt (as := [.int a0]) (rest := []) (a := b) at_264 cr71_58 put_o rfl rfl (Nat.le_of_ble_eq_true rfl) (by show 2 ≤ 2; omega) rfl
theorem m71_267 : M71 267 [l0, l1, l2, l3, l4, l5, l6, l7, .val (.int v), l9] st H Q = M71 269 [l0, l1, l2, l3, l4, l5, l6, l7, .val (.int v), l9] (.int v :: st) H Q := w_x at_267 rfl
theorem m71_269 : M71 269 ls (.int y :: .int x :: st) H Q = if x = y then M71 272 ls st H Q else M71 285 ls st H Q := w_icmpN at_269 (i_ne x y) rfl
theorem m71_272 : M71 272 [l0, l1, l2, l3, l4, .val (.ref r), l6, l7, l8, l9] st H Q = M71 274 [l0, l1, l2, l3, l4, .val (.ref r), l6, l7, l8, l9] (.ref r :: st) H Q := w_x at_272 rfl
theorem m71_274 : M71 274 ls st H Q = M71 275 ls (.int 2 :: st) H Q := w_con at_274 rfl (by decide)
theorem m71_275 (a0 : Int32) : M71 275 ls [.int a0, .ref b] (put b e s A L B g) Q = M65 0 [.val (.ref b), .val (.int a0)] [] (put b e s A L B g) (fun v H1 => M71 278 ls (v.toList ++ []) H1 Q) := w_virt (as := [.int a0]) (rest := []) (a := b) at_275 cr71_58 put_o rfl rfl (Nat.le_of_ble_eq_true rfl) (by show 2 ≤ 2; omega) rfl
theorem m71_278 : M71 278 [l0, l1, l2, l3, l4, l5, l6, l7, l8, .val (.int v9)] st H Q = M71 282 [l0, l1, l2, l3, l4, l5, l6, l7, l8, .val (.int v9)] (.int (v9 + 3) :: st) H Q := (w_x at_278 rfl).trans ((w_ki 3 at_280 rfl).trans (w_x at_281 rfl))
theorem m71_282 : M71 282 ls (.int y :: .int x :: st) H Q = if x = y then M71 287 ls st H Q else M71 285 ls st H Q := w_icmp at_282 (i_eq x y) rfl
theorem m71_287 : M71 287 [l0, l1, l2, l3, l4, .val (.ref r), l6, l7, l8, l9] st H Q = M71 289 [l0, l1, l2, l3, l4, .val (.ref r), l6, l7, l8, l9] (.ref r :: st) H Q := w_x at_287 rfl
theorem m71_289 : M71 289 [l0, l1, l2, l3, l4, l5, l6, l7, l8, l9] st H Q = M71 291 [l0, l1, l2, l3, l4, l5, l6, l7, l8, l9] (.int 0 :: .int 0 :: st) H Q := (w_ki 0 at_289 rfl).trans (w_ki 0 at_290 rfl)
theorem cr71_61 : vR tables_1 dn y71 61 = some (false, y66, prog_1_method_13_code, 4, (some .int), 2, 117) := vR_of (cR_of (by decide +kernel) rc_66 dn_66 dn_71 (sig := ⟨[.int, .int], some .int⟩) (by decide +kernel) (by decide +kernel) rfl rfl) (by decide +kernel) (by decide +kernel) (by decide +kernel)
theorem m71_291 (a0 : Int32) (a1 : Int32) : M71 291 ls [.int a1, .int a0, .ref b] (put b e s A L B g) Q = M66 0 [.val (.ref b), .val (.int a0), .val (.int a1), .unset] [] (put b e s A L B g) (fun v H1 => M71 294 ls (v.toList ++ []) H1 Q) := w_virt (as := [.int a1, .int a0]) (rest := []) (a := b) at_291 cr71_61 put_o rfl rfl (Nat.le_of_ble_eq_true rfl) (by show 3 ≤ 4; omega) rfl
theorem m71_294 : M71 294 ls st H Q = M71 296 ls (.int 76 :: st) H Q := w_con at_294 rfl (by decide)
theorem m71_296 : M71 296 ls (.int y :: .int x :: st) H Q = if x = y then M71 299 ls st H Q else M71 311 ls st H Q := w_icmpN at_296 (i_ne x y) rfl
theorem m71_299 : M71 299 [l0, l1, l2, l3, l4, .val (.ref r), l6, l7, l8, l9] st H Q = M71 301 [l0, l1, l2, l3, l4, .val (.ref r), l6, l7, l8, l9] (.ref r :: st) H Q := w_x at_299 rfl
theorem m71_301 : M71 301 [l0, l1, l2, l3, l4, l5, l6, l7, l8, l9] st H Q = M71 303 [l0, l1, l2, l3, l4, l5, l6, l7, l8, l9] (.int 2 :: .int 0 :: st) H Q := (w_ki 0 at_301 rfl).trans (w_ki 2 at_302 rfl)
theorem m71_303 (a0 : Int32) (a1 : Int32) : M71 303 ls [.int a1, .int a0, .ref b] (put b e s A L B g) Q = M66 0 [.val (.ref b), .val (.int a0), .val (.int a1), .unset] [] (put b e s A L B g) (fun v H1 => M71 306 ls (v.toList ++ []) H1 Q) := w_virt (as := [.int a1, .int a0]) (rest := []) (a := b) at_303 cr71_61 put_o rfl rfl (Nat.le_of_ble_eq_true rfl) (by show 3 ≤ 4; omega) rfl
theorem m71_306 : M71 306 ls st H Q = M71 308 ls (.int 49 :: st) H Q := w_con at_306 rfl (by decide)
theorem m71_308 : M71 308 ls (.int y :: .int x :: st) H Q = if x = y then M71 313 ls st H Q else M71 311 ls st H Q := w_icmp at_308 (i_eq x y) rfl
theorem m71_313 : M71 313 [l0, l1, l2, l3, l4, .val (.ref r), l6, l7, l8, l9] st H Q = M71 315 [l0, l1, l2, l3, l4, .val (.ref r), l6, l7, l8, l9] (.ref r :: st) H Q := w_x at_313 rfl
theorem m71_315 : M71 315 [l0, l1, l2, l3, l4, l5, l6, l7, l8, l9] st H Q = M71 317 [l0, l1, l2, l3, l4, l5, l6, l7, l8, l9] (.int 2 :: .int 1 :: st) H Q := (w_ki 1 at_315 rfl).trans (w_ki 2 at_316 rfl)
theorem m71_317 (a0 : Int32) (a1 : Int32) : M71 317 ls [.int a1, .int a0, .ref b] (put b e s A L B g) Q = M66 0 [.val (.ref b), .val (.int a0), .val (.int a1), .unset] [] (put b e s A L B g) (fun v H1 => M71 320 ls (v.toList ++ []) H1 Q) := w_virt (as := [.int a1, .int a0]) (rest := []) (a := b) at_317 cr71_61 put_o rfl rfl (Nat.le_of_ble_eq_true rfl) (by show 3 ≤ 4; omega) rfl
theorem m71_320 : M71 320 ls st H Q = M71 322 ls (.int 50 :: st) H Q := w_con at_320 rfl (by decide)
theorem m71_322 : M71 322 ls (.int y :: .int x :: st) H Q = if x = y then M71 325 ls st H Q else M71 337 ls st H Q := w_icmpN at_322 (i_ne x y) rfl
theorem m71_325 : M71 325 [l0, l1, l2, l3, l4, .val (.ref r), l6, l7, l8, l9] st H Q = M71 327 [l0, l1, l2, l3, l4, .val (.ref r), l6, l7, l8, l9] (.ref r :: st) H Q := w_x at_325 rfl
theorem m71_327 : M71 327 [l0, l1, l2, l3, l4, l5, l6, l7, l8, l9] st H Q = M71 329 [l0, l1, l2, l3, l4, l5, l6, l7, l8, l9] (.int 0 :: .int 2 :: st) H Q := (w_ki 2 at_327 rfl).trans (w_ki 0 at_328 rfl)
theorem m71_329 (a0 : Int32) (a1 : Int32) : M71 329 ls [.int a1, .int a0, .ref b] (put b e s A L B g) Q = M66 0 [.val (.ref b), .val (.int a0), .val (.int a1), .unset] [] (put b e s A L B g) (fun v H1 => M71 332 ls (v.toList ++ []) H1 Q) := w_virt (as := [.int a1, .int a0]) (rest := []) (a := b) at_329 cr71_61 put_o rfl rfl (Nat.le_of_ble_eq_true rfl) (by show 3 ≤ 4; omega) rfl
theorem m71_332 : M71 332 ls st H Q = M71 334 ls (.int 69 :: st) H Q := w_con at_332 rfl (by decide)
theorem m71_334 : M71 334 ls (.int y :: .int x :: st) H Q = if x = y then M71 339 ls st H Q else M71 337 ls st H Q := w_icmp at_334 (i_eq x y) rfl
theorem m71_339 : M71 339 [l0, l1, l2, l3, l4, .val (.ref r), l6, l7, l8, l9] st H Q = M71 341 [l0, l1, l2, l3, l4, .val (.ref r), l6, l7, l8, l9] (.ref r :: st) H Q := w_x at_339 rfl
theorem cr71_65 : vR tables_1 dn y71 65 = some (false, y67, prog_1_method_14_code, 1, (some .int), 0, 138) := vR_of (cR_of (by decide +kernel) rc_67 dn_67 dn_71 (sig := ⟨[], some .int⟩) (by decide +kernel) (by decide +kernel) rfl rfl) (by decide +kernel) (by decide +kernel) (by decide +kernel)
theorem m71_341 : M71 341 ls [.ref b] (put b e s A L B g) Q = M67 0 [.val (.ref b)] [] (put b e s A L B g) (fun v H1 => M71 344 ls (v.toList ++ []) H1 Q) := w_virt (as := []) (rest := []) (a := b) at_341 cr71_65 put_o rfl rfl (Nat.le_of_ble_eq_true rfl) (by show 1 ≤ 1; omega) rfl
theorem m71_344 : M71 344 ls st H Q = M71 345 ls (.int 2 :: st) H Q := w_con at_344 rfl (by decide)
theorem m71_345 : M71 345 ls (.int y :: .int x :: st) H Q = if x = y then M71 348 ls st H Q else M71 360 ls st H Q := w_icmpN at_345 (i_ne x y) rfl
theorem m71_348 : M71 348 [l0, l1, l2, l3, l4, .val (.ref r), l6, l7, l8, l9] st H Q = M71 350 [l0, l1, l2, l3, l4, .val (.ref r), l6, l7, l8, l9] (.ref r :: st) H Q := w_x at_348 rfl
theorem cr71_68 : vR tables_1 dn y71 68 = some (false, y68, prog_1_method_7_code, 1, (some .int), 0, 138) := vR_of (cR_of (by decide +kernel) rc_68 dn_68 dn_71 (sig := ⟨[], some .int⟩) (by decide +kernel) (by decide +kernel) rfl rfl) (by decide +kernel) (by decide +kernel) (by decide +kernel)
theorem m71_350 : M71 350 ls [.ref b] (put b e s A L B g) Q = M68 0 [.val (.ref b)] [] (put b e s A L B g) (fun v H1 => M71 353 ls (v.toList ++ []) H1 Q) := w_virt (as := []) (rest := []) (a := b) at_350 cr71_68 put_o rfl rfl (Nat.le_of_ble_eq_true rfl) (by show 1 ≤ 1; omega) rfl
theorem m71_353 : M71 353 ls (.int x :: st) H Q = if x = 0 then M71 356 ls st H Q else M71 360 ls st H Q := w_ifN at_353 (z_ne x) rfl
theorem m71_356 : M71 356 [l0, l1, l2, l3, l4, l5, l6, l7, l8, l9] st H Q = M71 361 [l0, l1, l2, l3, l4, l5, l6, l7, l8, l9] (.int 1 :: st) H Q := (w_ki 1 at_356 rfl).trans (w_x at_357 rfl)
theorem m71_361 : M71 361 ls (.int z :: st) H Q = Q (some (.int (nar .boolean z))) H := w_iretN at_361 rfl (by simp)
theorem m0_4a (hH : H.length = b) {vs : List Value} {r : AHeap} (hj : 0 < vs.length) : M0 4 (.val (.ref b) :: [l1, l2]) [] (H ++ (.object "MacroAssembler", vs) :: r) Q = M0 9 (.val (.ref b) :: [l1, l2]) [] (H ++ (.object "MacroAssembler", vs.set 0 (.int 1)) :: r) Q := w_iint (v := .int 1) rfl hH (Nat.zero_le _) (dc (.aload_n 0, 1)) rfl (dc (.iconst 1, 1)) (fun _ => rfl) (by decide) (dc (.putfield 7, 3)) pf0_7 rfl hj
theorem m0_9a (hH : H.length = b) {vs : List Value} {r : AHeap} (hj : 1 < vs.length) : M0 9 (.val (.ref b) :: [l1, l2]) [] (H ++ (.object "MacroAssembler", vs) :: r) Q = M0 14 (.val (.ref b) :: [l1, l2]) [] (H ++ (.object "MacroAssembler", vs.set 1 (.int 2)) :: r) Q := w_iint (v := .int 2) rfl hH (Nat.zero_le _) (dc (.aload_n 0, 1)) rfl (dc (.iconst 2, 1)) (fun _ => rfl) (by decide) (dc (.putfield 13, 3)) pf0_13 rfl hj
theorem m0_14a (hH : H.length = b) {vs : List Value} {r : AHeap} (hj : 2 < vs.length) : M0 14 (.val (.ref b) :: [l1, l2]) [] (H ++ (.object "MacroAssembler", vs) :: r) Q = M0 19 (.val (.ref b) :: [l1, l2]) [] (H ++ (.object "MacroAssembler", vs.set 2 (.int 1)) :: r) Q := w_iint (v := .int 1) rfl hH (Nat.zero_le _) (dc (.aload_n 0, 1)) rfl (dc (.iconst 1, 1)) (fun _ => rfl) (by decide) (dc (.putfield 16, 3)) pf0_16 rfl hj
theorem m0_19a (hH : H.length = b) {vs : List Value} {r : AHeap} (hj : 3 < vs.length) : M0 19 (.val (.ref b) :: [l1, l2]) [] (H ++ (.object "MacroAssembler", vs) :: r) Q = M0 24 (.val (.ref b) :: [l1, l2]) [] (H ++ (.object "MacroAssembler", vs.set 3 (.int 2)) :: r) Q := w_iint (v := .int 2) rfl hH (Nat.zero_le _) (dc (.aload_n 0, 1)) rfl (dc (.iconst 2, 1)) (fun _ => rfl) (by decide) (dc (.putfield 19, 3)) pf0_19 rfl hj
theorem m0_24a (hH : H.length = b) {vs : List Value} {r : AHeap} (hj : 4 < vs.length) : M0 24 (.val (.ref b) :: [l1, l2]) [] (H ++ (.object "MacroAssembler", vs) :: r) Q = M0 29 (.val (.ref b) :: [l1, l2]) [] (H ++ (.object "MacroAssembler", vs.set 4 (.int 3)) :: r) Q := w_iint (v := .int 3) rfl hH (Nat.zero_le _) (dc (.aload_n 0, 1)) rfl (dc (.iconst 3, 1)) (fun _ => rfl) (by decide) (dc (.putfield 22, 3)) pf0_22 rfl hj
theorem m0_29a (hH : H.length = b) {vs : List Value} {r : AHeap} (hj : 5 < vs.length) : M0 29 (.val (.ref b) :: [l1, l2]) [] (H ++ (.object "MacroAssembler", vs) :: r) Q = M0 34 (.val (.ref b) :: [l1, l2]) [] (H ++ (.object "MacroAssembler", vs.set 5 (.int 0)) :: r) Q := w_iint (v := .int 0) rfl hH (Nat.zero_le _) (dc (.aload_n 0, 1)) rfl (dc (.iconst 0, 1)) (fun _ => rfl) (by decide) (dc (.putfield 25, 3)) pf0_25 rfl hj
theorem m0_34a (hH : H.length = b) {vs : List Value} {r : AHeap} (hj : 6 < vs.length) : M0 34 (.val (.ref b) :: [l1, l2]) [] (H ++ (.object "MacroAssembler", vs) :: r) Q = M0 39 (.val (.ref b) :: [l1, l2]) [] (H ++ (.object "MacroAssembler", vs.set 6 (.int 1)) :: r) Q := w_iint (v := .int 1) rfl hH (Nat.zero_le _) (dc (.aload_n 0, 1)) rfl (dc (.iconst 1, 1)) (fun _ => rfl) (by decide) (dc (.putfield 28, 3)) pf0_28 rfl hj
theorem m0_39a (hH : H.length = b) {vs : List Value} {r : AHeap} (hj : 7 < vs.length) : M0 39 (.val (.ref b) :: [l1, l2]) [] (H ++ (.object "MacroAssembler", vs) :: r) Q = M0 44 (.val (.ref b) :: [l1, l2]) [] (H ++ (.object "MacroAssembler", vs.set 7 (.int 2)) :: r) Q := w_iint (v := .int 2) rfl hH (Nat.zero_le _) (dc (.aload_n 0, 1)) rfl (dc (.iconst 2, 1)) (fun _ => rfl) (by decide) (dc (.putfield 31, 3)) pf0_31 rfl hj
theorem m0_44a (hH : H.length = b) {vs : List Value} {r : AHeap} (hj : 8 < vs.length) : M0 44 (.val (.ref b) :: [l1, l2]) [] (H ++ (.object "MacroAssembler", vs) :: r) Q = M0 49 (.val (.ref b) :: [l1, l2]) [] (H ++ (.object "MacroAssembler", vs.set 8 (.int 0)) :: r) Q := w_iint (v := .int 0) rfl hH (Nat.zero_le _) (dc (.aload_n 0, 1)) rfl (dc (.iconst 0, 1)) (fun _ => rfl) (by decide) (dc (.putfield 34, 3)) pf0_34 rfl hj
theorem m0_49a (hH : H.length = b) {vs : List Value} {r : AHeap} (hj : 9 < vs.length) : M0 49 (.val (.ref b) :: [l1, l2]) [] (H ++ (.object "MacroAssembler", vs) :: r) Q = M0 54 (.val (.ref b) :: [l1, l2]) [] (H ++ (.object "MacroAssembler", vs.set 9 (.int 1)) :: r) Q := w_iint (v := .int 1) rfl hH (Nat.zero_le _) (dc (.aload_n 0, 1)) rfl (dc (.iconst 1, 1)) (fun _ => rfl) (by decide) (dc (.putfield 37, 3)) pf0_37 rfl hj
theorem m0_54a (hH : H.length = b) {vs : List Value} {r : AHeap} (hj : 10 < vs.length) : M0 54 (.val (.ref b) :: [l1, l2]) [] (H ++ (.object "MacroAssembler", vs) :: r) Q = M0 59 (.val (.ref b) :: [l1, l2]) [] (H ++ (.object "MacroAssembler", vs.set 10 (.int 2)) :: r) Q := w_iint (v := .int 2) rfl hH (Nat.zero_le _) (dc (.aload_n 0, 1)) rfl (dc (.iconst 2, 1)) (fun _ => rfl) (by decide) (dc (.putfield 40, 3)) pf0_40 rfl hj
theorem m0_59a (hH : H.length = b) {vs : List Value} {r : AHeap} (hj : 11 < vs.length) : M0 59 (.val (.ref b) :: [l1, l2]) [] (H ++ (.object "MacroAssembler", vs) :: r) Q = M0 65 (.val (.ref b) :: [l1, l2]) [] (H ++ (.object "MacroAssembler", vs.set 11 (.int 10)) :: r) Q := w_iint (v := .int 10) rfl hH (Nat.zero_le _) (dc (.aload_n 0, 1)) rfl (dc (.bipush 10, 2)) (fun _ => rfl) (by decide) (dc (.putfield 43, 3)) pf0_43 rfl hj
theorem m0_65a (hH : H.length = b) {vs : List Value} {r : AHeap} (hj : 12 < vs.length) : M0 65 (.val (.ref b) :: [l1, l2]) [] (H ++ (.object "MacroAssembler", vs) :: r) Q = M0 71 (.val (.ref b) :: [l1, l2]) [] (H ++ (.object "MacroAssembler", vs.set 12 (.int 11)) :: r) Q := w_iint (v := .int 11) rfl hH (Nat.zero_le _) (dc (.aload_n 0, 1)) rfl (dc (.bipush 11, 2)) (fun _ => rfl) (by decide) (dc (.putfield 46, 3)) pf0_46 rfl hj
theorem m0_71a (hH : H.length = b) {vs : List Value} {r : AHeap} (hj : 13 < vs.length) : M0 71 (.val (.ref b) :: [l1, l2]) [] (H ++ (.object "MacroAssembler", vs) :: r) Q = M0 77 (.val (.ref b) :: [l1, l2]) [] (H ++ (.object "MacroAssembler", vs.set 13 (.int 12)) :: r) Q := w_iint (v := .int 12) rfl hH (Nat.zero_le _) (dc (.aload_n 0, 1)) rfl (dc (.bipush 12, 2)) (fun _ => rfl) (by decide) (dc (.putfield 49, 3)) pf0_49 rfl hj
theorem m0_77a (hH : H.length = b) {vs : List Value} {r : AHeap} (hj : 14 < vs.length) : M0 77 (.val (.ref b) :: [l1, l2]) [] (H ++ (.object "MacroAssembler", vs) :: r) Q = M0 83 (.val (.ref b) :: [l1, l2]) [] (H ++ (.object "MacroAssembler", vs.set 14 (.int 13)) :: r) Q := w_iint (v := .int 13) rfl hH (Nat.zero_le _) (dc (.aload_n 0, 1)) rfl (dc (.bipush 13, 2)) (fun _ => rfl) (by decide) (dc (.putfield 52, 3)) pf0_52 rfl hj
theorem m0_83a (hH : H.length = b) {vs : List Value} {r : AHeap} (hj : 15 < vs.length) : M0 83 (.val (.ref b) :: [l1, l2]) [] (H ++ (.object "MacroAssembler", vs) :: r) Q = M0 89 (.val (.ref b) :: [l1, l2]) [] (H ++ (.object "MacroAssembler", vs.set 15 (.int 14)) :: r) Q := w_iint (v := .int 14) rfl hH (Nat.zero_le _) (dc (.aload_n 0, 1)) rfl (dc (.bipush 14, 2)) (fun _ => rfl) (by decide) (dc (.putfield 55, 3)) pf0_55 rfl hj
theorem m0_89a (hH : H.length = b) {vs : List Value} {r : AHeap} (hj : 16 < vs.length) : M0 89 (.val (.ref b) :: [l1, l2]) [] (H ++ (.object "MacroAssembler", vs) :: r) Q = M0 95 (.val (.ref b) :: [l1, l2]) [] (H ++ (.object "MacroAssembler", vs.set 16 (.int 15)) :: r) Q := w_iint (v := .int 15) rfl hH (Nat.zero_le _) (dc (.aload_n 0, 1)) rfl (dc (.bipush 15, 2)) (fun _ => rfl) (by decide) (dc (.putfield 58, 3)) pf0_58 rfl hj
theorem m0_95a (hH : H.length = b) {vs : List Value} {r : AHeap} (hj : 17 < vs.length) : M0 95 (.val (.ref b) :: [l1, l2]) [] (H ++ (.object "MacroAssembler", vs) :: r) Q = M0 101 (.val (.ref b) :: [l1, l2]) [] (H ++ (.object "MacroAssembler", vs.set 17 (.int 16)) :: r) Q := w_iint (v := .int 16) rfl hH (Nat.zero_le _) (dc (.aload_n 0, 1)) rfl (dc (.bipush 16, 2)) (fun _ => rfl) (by decide) (dc (.putfield 61, 3)) pf0_61 rfl hj
theorem m0_101a (hH : H.length = b) {vs : List Value} {r : AHeap} (hj : 18 < vs.length) : M0 101 (.val (.ref b) :: [l1, l2]) [] (H ++ (.object "MacroAssembler", vs) :: r) Q = M0 107 (.val (.ref b) :: [l1, l2]) [] (H ++ (.object "MacroAssembler", vs.set 18 (.int 17)) :: r) Q := w_iint (v := .int 17) rfl hH (Nat.zero_le _) (dc (.aload_n 0, 1)) rfl (dc (.bipush 17, 2)) (fun _ => rfl) (by decide) (dc (.putfield 64, 3)) pf0_64 rfl hj
theorem m0_107a (hH : H.length = b) {vs : List Value} {r : AHeap} (hj : 19 < vs.length) : M0 107 (.val (.ref b) :: [l1, l2]) [] (H ++ (.object "MacroAssembler", vs) :: r) Q = M0 113 (.val (.ref b) :: [l1, l2]) [] (H ++ (.object "MacroAssembler", vs.set 19 (.int 18)) :: r) Q := w_iint (v := .int 18) rfl hH (Nat.zero_le _) (dc (.aload_n 0, 1)) rfl (dc (.bipush 18, 2)) (fun _ => rfl) (by decide) (dc (.putfield 67, 3)) pf0_67 rfl hj
theorem m0_113a (hH : H.length = b) {vs : List Value} {r : AHeap} (hj : 20 < vs.length) : M0 113 (.val (.ref b) :: [l1, l2]) [] (H ++ (.object "MacroAssembler", vs) :: r) Q = M0 119 (.val (.ref b) :: [l1, l2]) [] (H ++ (.object "MacroAssembler", vs.set 20 (.int 81)) :: r) Q := w_iint (v := .int 81) rfl hH (Nat.zero_le _) (dc (.aload_n 0, 1)) rfl (dc (.bipush 81, 2)) (fun _ => rfl) (by decide) (dc (.putfield 70, 3)) pf0_70 rfl hj
theorem pf0_73 : pfR tables_1 y0.cls y0.name 73 = some ("MacroAssembler", 21, .array .char) := by decide +kernel
theorem m0_119a (hH : H.length = b) {vs : List Value} {r : AHeap} (hj : 21 < vs.length) : M0 119 (.val (.ref b) :: [l1, l2]) [] (H ++ (.object "MacroAssembler", vs) :: r) Q = M0 128 (.val (.ref b) :: [l1, l2]) [] (H ++ (.object "MacroAssembler", vs.set 21 (.ref (b + (r.length + 1)))) :: (r ++ [(.array .char, List.replicate 640 (.int 0))])) Q := w_iarr (n := 640) rfl hH (Nat.zero_le _) (dc (.aload_n 0, 1)) rfl (dc (.sipush 640, 3)) (fun _ => rfl) (by decide) (dc (.newarray .char, 2)) rfl (by decide +kernel) (by decide) (by decide) rfl (dc (.putfield 73, 3)) pf0_73 hj
theorem pf0_77 : pfR tables_1 y0.cls y0.name 77 = some ("MacroAssembler", 22, .array .int) := by decide +kernel
theorem m0_128a (hH : H.length = b) {vs : List Value} {r : AHeap} (hj : 22 < vs.length) : M0 128 (.val (.ref b) :: [l1, l2]) [] (H ++ (.object "MacroAssembler", vs) :: r) Q = M0 137 (.val (.ref b) :: [l1, l2]) [] (H ++ (.object "MacroAssembler", vs.set 22 (.ref (b + (r.length + 1)))) :: (r ++ [(.array .int, List.replicate 640 (.int 0))])) Q := w_iarr (n := 640) rfl hH (Nat.zero_le _) (dc (.aload_n 0, 1)) rfl (dc (.sipush 640, 3)) (fun _ => rfl) (by decide) (dc (.newarray .int, 2)) rfl (by decide +kernel) (by decide) (by decide) rfl (dc (.putfield 77, 3)) pf0_77 hj
theorem pf0_81 : pfR tables_1 y0.cls y0.name 81 = some ("MacroAssembler", 23, .array .int) := by decide +kernel
theorem m0_137a (hH : H.length = b) {vs : List Value} {r : AHeap} (hj : 23 < vs.length) : M0 137 (.val (.ref b) :: [l1, l2]) [] (H ++ (.object "MacroAssembler", vs) :: r) Q = M0 146 (.val (.ref b) :: [l1, l2]) [] (H ++ (.object "MacroAssembler", vs.set 23 (.ref (b + (r.length + 1)))) :: (r ++ [(.array .int, List.replicate 640 (.int 0))])) Q := w_iarr (n := 640) rfl hH (Nat.zero_le _) (dc (.aload_n 0, 1)) rfl (dc (.sipush 640, 3)) (fun _ => rfl) (by decide) (dc (.newarray .int, 2)) rfl (by decide +kernel) (by decide) (by decide) rfl (dc (.putfield 81, 3)) pf0_81 hj
theorem pf0_84 : pfR tables_1 y0.cls y0.name 84 = some ("MacroAssembler", 24, .array .int) := by decide +kernel
theorem m0_146a (hH : H.length = b) {vs : List Value} {r : AHeap} (hj : 24 < vs.length) : M0 146 (.val (.ref b) :: [l1, l2]) [] (H ++ (.object "MacroAssembler", vs) :: r) Q = M0 154 (.val (.ref b) :: [l1, l2]) [] (H ++ (.object "MacroAssembler", vs.set 24 (.ref (b + (r.length + 1)))) :: (r ++ [(.array .int, List.replicate 32 (.int 0))])) Q := w_iarr (n := 32) rfl hH (Nat.zero_le _) (dc (.aload_n 0, 1)) rfl (dc (.bipush 32, 2)) (fun _ => rfl) (by decide) (dc (.newarray .int, 2)) rfl (by decide +kernel) (by decide) (by decide) rfl (dc (.putfield 84, 3)) pf0_84 hj
theorem pf0_87 : pfR tables_1 y0.cls y0.name 87 = some ("MacroAssembler", 25, .array .long) := by decide +kernel
theorem m0_154a (hH : H.length = b) {vs : List Value} {r : AHeap} (hj : 25 < vs.length) : M0 154 (.val (.ref b) :: [l1, l2]) [] (H ++ (.object "MacroAssembler", vs) :: r) Q = M0 162 (.val (.ref b) :: [l1, l2]) [] (H ++ (.object "MacroAssembler", vs.set 25 (.ref (b + (r.length + 1)))) :: (r ++ [(.array .long, List.replicate 16 (.long 0))])) Q := w_iarr (n := 16) rfl hH (Nat.zero_le _) (dc (.aload_n 0, 1)) rfl (dc (.bipush 16, 2)) (fun _ => rfl) (by decide) (dc (.newarray .long, 2)) rfl (by decide +kernel) (by decide) (by decide) rfl (dc (.putfield 87, 3)) pf0_87 hj
theorem pf0_91 : pfR tables_1 y0.cls y0.name 91 = some ("MacroAssembler", 26, .array .int) := by decide +kernel
theorem m0_162a (hH : H.length = b) {vs : List Value} {r : AHeap} (hj : 26 < vs.length) : M0 162 (.val (.ref b) :: [l1, l2]) [] (H ++ (.object "MacroAssembler", vs) :: r) Q = M0 170 (.val (.ref b) :: [l1, l2]) [] (H ++ (.object "MacroAssembler", vs.set 26 (.ref (b + (r.length + 1)))) :: (r ++ [(.array .int, List.replicate 16 (.int 0))])) Q := w_iarr (n := 16) rfl hH (Nat.zero_le _) (dc (.aload_n 0, 1)) rfl (dc (.bipush 16, 2)) (fun _ => rfl) (by decide) (dc (.newarray .int, 2)) rfl (by decide +kernel) (by decide) (by decide) rfl (dc (.putfield 91, 3)) pf0_91 hj
theorem pf0_94 : pfR tables_1 y0.cls y0.name 94 = some ("MacroAssembler", 27, .array .char) := by decide +kernel
theorem m0_170a (hH : H.length = b) {vs : List Value} {r : AHeap} (hj : 27 < vs.length) : M0 170 (.val (.ref b) :: [l1, l2]) [] (H ++ (.object "MacroAssembler", vs) :: r) Q = M0 179 (.val (.ref b) :: [l1, l2]) [] (H ++ (.object "MacroAssembler", vs.set 27 (.ref (b + (r.length + 1)))) :: (r ++ [(.array .char, List.replicate 624 (.int 0))])) Q := w_iarr (n := 624) rfl hH (Nat.zero_le _) (dc (.aload_n 0, 1)) rfl (dc (.sipush 624, 3)) (fun _ => rfl) (by decide) (dc (.newarray .char, 2)) rfl (by decide +kernel) (by decide) (by decide) rfl (dc (.putfield 94, 3)) pf0_94 hj
theorem pf0_97 : pfR tables_1 y0.cls y0.name 97 = some ("MacroAssembler", 28, .array .char) := by decide +kernel
theorem m0_179a (hH : H.length = b) {vs : List Value} {r : AHeap} (hj : 28 < vs.length) : M0 179 (.val (.ref b) :: [l1, l2]) [] (H ++ (.object "MacroAssembler", vs) :: r) Q = M0 187 (.val (.ref b) :: [l1, l2]) [] (H ++ (.object "MacroAssembler", vs.set 28 (.ref (b + (r.length + 1)))) :: (r ++ [(.array .char, List.replicate 12 (.int 0))])) Q := w_iarr (n := 12) rfl hH (Nat.zero_le _) (dc (.aload_n 0, 1)) rfl (dc (.bipush 12, 2)) (fun _ => rfl) (by decide) (dc (.newarray .char, 2)) rfl (by decide +kernel) (by decide) (by decide) rfl (dc (.putfield 97, 3)) pf0_97 hj
theorem pf0_100 : pfR tables_1 y0.cls y0.name 100 = some ("MacroAssembler", 29, .array .long) := by decide +kernel
theorem m0_187a (hH : H.length = b) {vs : List Value} {r : AHeap} (hj : 29 < vs.length) : M0 187 (.val (.ref b) :: [l1, l2]) [] (H ++ (.object "MacroAssembler", vs) :: r) Q = M0 195 (.val (.ref b) :: [l1, l2]) [] (H ++ (.object "MacroAssembler", vs.set 29 (.ref (b + (r.length + 1)))) :: (r ++ [(.array .long, List.replicate 8 (.long 0))])) Q := w_iarr (n := 8) rfl hH (Nat.zero_le _) (dc (.aload_n 0, 1)) rfl (dc (.bipush 8, 2)) (fun _ => rfl) (by decide) (dc (.newarray .long, 2)) rfl (by decide +kernel) (by decide) (by decide) rfl (dc (.putfield 100, 3)) pf0_100 hj
theorem pf0_103 : pfR tables_1 y0.cls y0.name 103 = some ("MacroAssembler", 30, .array .int) := by decide +kernel
theorem m0_195a (hH : H.length = b) {vs : List Value} {r : AHeap} (hj : 30 < vs.length) : M0 195 (.val (.ref b) :: [l1, l2]) [] (H ++ (.object "MacroAssembler", vs) :: r) Q = M0 203 (.val (.ref b) :: [l1, l2]) [] (H ++ (.object "MacroAssembler", vs.set 30 (.ref (b + (r.length + 1)))) :: (r ++ [(.array .int, List.replicate 8 (.int 0))])) Q := w_iarr (n := 8) rfl hH (Nat.zero_le _) (dc (.aload_n 0, 1)) rfl (dc (.bipush 8, 2)) (fun _ => rfl) (by decide) (dc (.newarray .int, 2)) rfl (by decide +kernel) (by decide) (by decide) rfl (dc (.putfield 103, 3)) pf0_103 hj
theorem pf0_106 : pfR tables_1 y0.cls y0.name 106 = some ("MacroAssembler", 31, .array .int) := by decide +kernel
theorem m0_203a (hH : H.length = b) {vs : List Value} {r : AHeap} (hj : 31 < vs.length) : M0 203 (.val (.ref b) :: [l1, l2]) [] (H ++ (.object "MacroAssembler", vs) :: r) Q = M0 211 (.val (.ref b) :: [l1, l2]) [] (H ++ (.object "MacroAssembler", vs.set 31 (.ref (b + (r.length + 1)))) :: (r ++ [(.array .int, List.replicate 8 (.int 0))])) Q := w_iarr (n := 8) rfl hH (Nat.zero_le _) (dc (.aload_n 0, 1)) rfl (dc (.bipush 8, 2)) (fun _ => rfl) (by decide) (dc (.newarray .int, 2)) rfl (by decide +kernel) (by decide) (by decide) rfl (dc (.putfield 106, 3)) pf0_106 hj
theorem pf0_109 : pfR tables_1 y0.cls y0.name 109 = some ("MacroAssembler", 32, .array .int) := by decide +kernel
theorem m0_211a (hH : H.length = b) {vs : List Value} {r : AHeap} (hj : 32 < vs.length) : M0 211 (.val (.ref b) :: [l1, l2]) [] (H ++ (.object "MacroAssembler", vs) :: r) Q = M0 219 (.val (.ref b) :: [l1, l2]) [] (H ++ (.object "MacroAssembler", vs.set 32 (.ref (b + (r.length + 1)))) :: (r ++ [(.array .int, List.replicate 8 (.int 0))])) Q := w_iarr (n := 8) rfl hH (Nat.zero_le _) (dc (.aload_n 0, 1)) rfl (dc (.bipush 8, 2)) (fun _ => rfl) (by decide) (dc (.newarray .int, 2)) rfl (by decide +kernel) (by decide) (by decide) rfl (dc (.putfield 109, 3)) pf0_109 hj
theorem pf0_112 : pfR tables_1 y0.cls y0.name 112 = some ("MacroAssembler", 33, .array .boolean) := by decide +kernel
theorem m0_219a (hH : H.length = b) {vs : List Value} {r : AHeap} (hj : 33 < vs.length) : M0 219 (.val (.ref b) :: [l1, l2]) [] (H ++ (.object "MacroAssembler", vs) :: r) Q = M0 227 (.val (.ref b) :: [l1, l2]) [] (H ++ (.object "MacroAssembler", vs.set 33 (.ref (b + (r.length + 1)))) :: (r ++ [(.array .boolean, List.replicate 8 (.int 0))])) Q := w_iarr (n := 8) rfl hH (Nat.zero_le _) (dc (.aload_n 0, 1)) rfl (dc (.bipush 8, 2)) (fun _ => rfl) (by decide) (dc (.newarray .boolean, 2)) rfl (by decide +kernel) (by decide) (by decide) rfl (dc (.putfield 112, 3)) pf0_112 hj
theorem pf0_116 : pfR tables_1 y0.cls y0.name 116 = some ("MacroAssembler", 34, .array .int) := by decide +kernel
theorem m0_227a (hH : H.length = b) {vs : List Value} {r : AHeap} (hj : 34 < vs.length) : M0 227 (.val (.ref b) :: [l1, l2]) [] (H ++ (.object "MacroAssembler", vs) :: r) Q = M0 235 (.val (.ref b) :: [l1, l2]) [] (H ++ (.object "MacroAssembler", vs.set 34 (.ref (b + (r.length + 1)))) :: (r ++ [(.array .int, List.replicate 8 (.int 0))])) Q := w_iarr (n := 8) rfl hH (Nat.zero_le _) (dc (.aload_n 0, 1)) rfl (dc (.bipush 8, 2)) (fun _ => rfl) (by decide) (dc (.newarray .int, 2)) rfl (by decide +kernel) (by decide) (by decide) rfl (dc (.putfield 116, 3)) pf0_116 hj
theorem pf0_119 : pfR tables_1 y0.cls y0.name 119 = some ("MacroAssembler", 35, .array .int) := by decide +kernel
theorem m0_235a (hH : H.length = b) {vs : List Value} {r : AHeap} (hj : 35 < vs.length) : M0 235 (.val (.ref b) :: [l1, l2]) [] (H ++ (.object "MacroAssembler", vs) :: r) Q = M0 243 (.val (.ref b) :: [l1, l2]) [] (H ++ (.object "MacroAssembler", vs.set 35 (.ref (b + (r.length + 1)))) :: (r ++ [(.array .int, List.replicate 8 (.int 0))])) Q := w_iarr (n := 8) rfl hH (Nat.zero_le _) (dc (.aload_n 0, 1)) rfl (dc (.bipush 8, 2)) (fun _ => rfl) (by decide) (dc (.newarray .int, 2)) rfl (by decide +kernel) (by decide) (by decide) rfl (dc (.putfield 119, 3)) pf0_119 hj
theorem pf0_122 : pfR tables_1 y0.cls y0.name 122 = some ("MacroAssembler", 36, .array .int) := by decide +kernel
theorem m0_243a (hH : H.length = b) {vs : List Value} {r : AHeap} (hj : 36 < vs.length) : M0 243 (.val (.ref b) :: [l1, l2]) [] (H ++ (.object "MacroAssembler", vs) :: r) Q = M0 251 (.val (.ref b) :: [l1, l2]) [] (H ++ (.object "MacroAssembler", vs.set 36 (.ref (b + (r.length + 1)))) :: (r ++ [(.array .int, List.replicate 8 (.int 0))])) Q := w_iarr (n := 8) rfl hH (Nat.zero_le _) (dc (.aload_n 0, 1)) rfl (dc (.bipush 8, 2)) (fun _ => rfl) (by decide) (dc (.newarray .int, 2)) rfl (by decide +kernel) (by decide) (by decide) rfl (dc (.putfield 122, 3)) pf0_122 hj
theorem pf0_125 : pfR tables_1 y0.cls y0.name 125 = some ("MacroAssembler", 37, .array .int) := by decide +kernel
theorem m0_251a (hH : H.length = b) {vs : List Value} {r : AHeap} (hj : 37 < vs.length) : M0 251 (.val (.ref b) :: [l1, l2]) [] (H ++ (.object "MacroAssembler", vs) :: r) Q = M0 259 (.val (.ref b) :: [l1, l2]) [] (H ++ (.object "MacroAssembler", vs.set 37 (.ref (b + (r.length + 1)))) :: (r ++ [(.array .int, List.replicate 8 (.int 0))])) Q := w_iarr (n := 8) rfl hH (Nat.zero_le _) (dc (.aload_n 0, 1)) rfl (dc (.bipush 8, 2)) (fun _ => rfl) (by decide) (dc (.newarray .int, 2)) rfl (by decide +kernel) (by decide) (by decide) rfl (dc (.putfield 125, 3)) pf0_125 hj
theorem pf0_128 : pfR tables_1 y0.cls y0.name 128 = some ("MacroAssembler", 38, .array .int) := by decide +kernel
theorem m0_259a (hH : H.length = b) {vs : List Value} {r : AHeap} (hj : 38 < vs.length) : M0 259 (.val (.ref b) :: [l1, l2]) [] (H ++ (.object "MacroAssembler", vs) :: r) Q = M0 267 (.val (.ref b) :: [l1, l2]) [] (H ++ (.object "MacroAssembler", vs.set 38 (.ref (b + (r.length + 1)))) :: (r ++ [(.array .int, List.replicate 8 (.int 0))])) Q := w_iarr (n := 8) rfl hH (Nat.zero_le _) (dc (.aload_n 0, 1)) rfl (dc (.bipush 8, 2)) (fun _ => rfl) (by decide) (dc (.newarray .int, 2)) rfl (by decide +kernel) (by decide) (by decide) rfl (dc (.putfield 128, 3)) pf0_128 hj
theorem pf0_131 : pfR tables_1 y0.cls y0.name 131 = some ("MacroAssembler", 39, .array .int) := by decide +kernel
theorem m0_267a (hH : H.length = b) {vs : List Value} {r : AHeap} (hj : 39 < vs.length) : M0 267 (.val (.ref b) :: [l1, l2]) [] (H ++ (.object "MacroAssembler", vs) :: r) Q = M0 275 (.val (.ref b) :: [l1, l2]) [] (H ++ (.object "MacroAssembler", vs.set 39 (.ref (b + (r.length + 1)))) :: (r ++ [(.array .int, List.replicate 8 (.int 0))])) Q := w_iarr (n := 8) rfl hH (Nat.zero_le _) (dc (.aload_n 0, 1)) rfl (dc (.bipush 8, 2)) (fun _ => rfl) (by decide) (dc (.newarray .int, 2)) rfl (by decide +kernel) (by decide) (by decide) rfl (dc (.putfield 131, 3)) pf0_131 hj
theorem pf0_134 : pfR tables_1 y0.cls y0.name 134 = some ("MacroAssembler", 40, .array .int) := by decide +kernel
theorem m0_275a (hH : H.length = b) {vs : List Value} {r : AHeap} (hj : 40 < vs.length) : M0 275 (.val (.ref b) :: [l1, l2]) [] (H ++ (.object "MacroAssembler", vs) :: r) Q = M0 283 (.val (.ref b) :: [l1, l2]) [] (H ++ (.object "MacroAssembler", vs.set 40 (.ref (b + (r.length + 1)))) :: (r ++ [(.array .int, List.replicate 32 (.int 0))])) Q := w_iarr (n := 32) rfl hH (Nat.zero_le _) (dc (.aload_n 0, 1)) rfl (dc (.bipush 32, 2)) (fun _ => rfl) (by decide) (dc (.newarray .int, 2)) rfl (by decide +kernel) (by decide) (by decide) rfl (dc (.putfield 134, 3)) pf0_134 hj
theorem pf0_137 : pfR tables_1 y0.cls y0.name 137 = some ("MacroAssembler", 41, .array .char) := by decide +kernel
theorem m0_283a (hH : H.length = b) {vs : List Value} {r : AHeap} (hj : 41 < vs.length) : M0 283 (.val (.ref b) :: [l1, l2]) [] (H ++ (.object "MacroAssembler", vs) :: r) Q = M0 292 (.val (.ref b) :: [l1, l2]) [] (H ++ (.object "MacroAssembler", vs.set 41 (.ref (b + (r.length + 1)))) :: (r ++ [(.array .char, List.replicate 2592 (.int 0))])) Q := w_iarr (n := 2592) rfl hH (Nat.zero_le _) (dc (.aload_n 0, 1)) rfl (dc (.sipush 2592, 3)) (fun _ => rfl) (by decide) (dc (.newarray .char, 2)) rfl (by decide +kernel) (by decide) (by decide) rfl (dc (.putfield 137, 3)) pf0_137 hj
theorem pf0_140 : pfR tables_1 y0.cls y0.name 140 = some ("MacroAssembler", 42, .array .char) := by decide +kernel
theorem m0_292a (hH : H.length = b) {vs : List Value} {r : AHeap} (hj : 42 < vs.length) : M0 292 (.val (.ref b) :: [l1, l2]) [] (H ++ (.object "MacroAssembler", vs) :: r) Q = M0 301 (.val (.ref b) :: [l1, l2]) [] (H ++ (.object "MacroAssembler", vs.set 42 (.ref (b + (r.length + 1)))) :: (r ++ [(.array .char, List.replicate 640 (.int 0))])) Q := w_iarr (n := 640) rfl hH (Nat.zero_le _) (dc (.aload_n 0, 1)) rfl (dc (.sipush 640, 3)) (fun _ => rfl) (by decide) (dc (.newarray .char, 2)) rfl (by decide +kernel) (by decide) (by decide) rfl (dc (.putfield 140, 3)) pf0_140 hj
theorem pf0_143 : pfR tables_1 y0.cls y0.name 143 = some ("MacroAssembler", 43, .array .int) := by decide +kernel
theorem m0_301a (hH : H.length = b) {vs : List Value} {r : AHeap} (hj : 43 < vs.length) : M0 301 (.val (.ref b) :: [l1, l2]) [] (H ++ (.object "MacroAssembler", vs) :: r) Q = M0 310 (.val (.ref b) :: [l1, l2]) [] (H ++ (.object "MacroAssembler", vs.set 43 (.ref (b + (r.length + 1)))) :: (r ++ [(.array .int, List.replicate 640 (.int 0))])) Q := w_iarr (n := 640) rfl hH (Nat.zero_le _) (dc (.aload_n 0, 1)) rfl (dc (.sipush 640, 3)) (fun _ => rfl) (by decide) (dc (.newarray .int, 2)) rfl (by decide +kernel) (by decide) (by decide) rfl (dc (.putfield 143, 3)) pf0_143 hj
theorem pf0_146 : pfR tables_1 y0.cls y0.name 146 = some ("MacroAssembler", 44, .array .int) := by decide +kernel
theorem m0_310a (hH : H.length = b) {vs : List Value} {r : AHeap} (hj : 44 < vs.length) : M0 310 (.val (.ref b) :: [l1, l2]) [] (H ++ (.object "MacroAssembler", vs) :: r) Q = M0 319 (.val (.ref b) :: [l1, l2]) [] (H ++ (.object "MacroAssembler", vs.set 44 (.ref (b + (r.length + 1)))) :: (r ++ [(.array .int, List.replicate 640 (.int 0))])) Q := w_iarr (n := 640) rfl hH (Nat.zero_le _) (dc (.aload_n 0, 1)) rfl (dc (.sipush 640, 3)) (fun _ => rfl) (by decide) (dc (.newarray .int, 2)) rfl (by decide +kernel) (by decide) (by decide) rfl (dc (.putfield 146, 3)) pf0_146 hj
theorem pf0_149 : pfR tables_1 y0.cls y0.name 149 = some ("MacroAssembler", 45, .array .long) := by decide +kernel
theorem m0_319a (hH : H.length = b) {vs : List Value} {r : AHeap} (hj : 45 < vs.length) : M0 319 (.val (.ref b) :: [l1, l2]) [] (H ++ (.object "MacroAssembler", vs) :: r) Q = M0 328 (.val (.ref b) :: [l1, l2]) [] (H ++ (.object "MacroAssembler", vs.set 45 (.ref (b + (r.length + 1)))) :: (r ++ [(.array .long, List.replicate 640 (.long 0))])) Q := w_iarr (n := 640) rfl hH (Nat.zero_le _) (dc (.aload_n 0, 1)) rfl (dc (.sipush 640, 3)) (fun _ => rfl) (by decide) (dc (.newarray .long, 2)) rfl (by decide +kernel) (by decide) (by decide) rfl (dc (.putfield 149, 3)) pf0_149 hj
theorem pf0_152 : pfR tables_1 y0.cls y0.name 152 = some ("MacroAssembler", 46, .array .long) := by decide +kernel
theorem m0_328a (hH : H.length = b) {vs : List Value} {r : AHeap} (hj : 46 < vs.length) : M0 328 (.val (.ref b) :: [l1, l2]) [] (H ++ (.object "MacroAssembler", vs) :: r) Q = M0 336 (.val (.ref b) :: [l1, l2]) [] (H ++ (.object "MacroAssembler", vs.set 46 (.ref (b + (r.length + 1)))) :: (r ++ [(.array .long, List.replicate 16 (.long 0))])) Q := w_iarr (n := 16) rfl hH (Nat.zero_le _) (dc (.aload_n 0, 1)) rfl (dc (.bipush 16, 2)) (fun _ => rfl) (by decide) (dc (.newarray .long, 2)) rfl (by decide +kernel) (by decide) (by decide) rfl (dc (.putfield 152, 3)) pf0_152 hj
theorem pf0_155 : pfR tables_1 y0.cls y0.name 155 = some ("MacroAssembler", 47, .array .int) := by decide +kernel
theorem m0_336a (hH : H.length = b) {vs : List Value} {r : AHeap} (hj : 47 < vs.length) : M0 336 (.val (.ref b) :: [l1, l2]) [] (H ++ (.object "MacroAssembler", vs) :: r) Q = M0 344 (.val (.ref b) :: [l1, l2]) [] (H ++ (.object "MacroAssembler", vs.set 47 (.ref (b + (r.length + 1)))) :: (r ++ [(.array .int, List.replicate 16 (.int 0))])) Q := w_iarr (n := 16) rfl hH (Nat.zero_le _) (dc (.aload_n 0, 1)) rfl (dc (.bipush 16, 2)) (fun _ => rfl) (by decide) (dc (.newarray .int, 2)) rfl (by decide +kernel) (by decide) (by decide) rfl (dc (.putfield 155, 3)) pf0_155 hj
theorem pf0_158 : pfR tables_1 y0.cls y0.name 158 = some ("MacroAssembler", 48, .array .int) := by decide +kernel
theorem m0_344a (hH : H.length = b) {vs : List Value} {r : AHeap} (hj : 48 < vs.length) : M0 344 (.val (.ref b) :: [l1, l2]) [] (H ++ (.object "MacroAssembler", vs) :: r) Q = M0 352 (.val (.ref b) :: [l1, l2]) [] (H ++ (.object "MacroAssembler", vs.set 48 (.ref (b + (r.length + 1)))) :: (r ++ [(.array .int, List.replicate 32 (.int 0))])) Q := w_iarr (n := 32) rfl hH (Nat.zero_le _) (dc (.aload_n 0, 1)) rfl (dc (.bipush 32, 2)) (fun _ => rfl) (by decide) (dc (.newarray .int, 2)) rfl (by decide +kernel) (by decide) (by decide) rfl (dc (.putfield 158, 3)) pf0_158 hj
theorem pf0_161 : pfR tables_1 y0.cls y0.name 161 = some ("MacroAssembler", 49, .array .int) := by decide +kernel
theorem m0_352a (hH : H.length = b) {vs : List Value} {r : AHeap} (hj : 49 < vs.length) : M0 352 (.val (.ref b) :: [l1, l2]) [] (H ++ (.object "MacroAssembler", vs) :: r) Q = M0 360 (.val (.ref b) :: [l1, l2]) [] (H ++ (.object "MacroAssembler", vs.set 49 (.ref (b + (r.length + 1)))) :: (r ++ [(.array .int, List.replicate 32 (.int 0))])) Q := w_iarr (n := 32) rfl hH (Nat.zero_le _) (dc (.aload_n 0, 1)) rfl (dc (.bipush 32, 2)) (fun _ => rfl) (by decide) (dc (.newarray .int, 2)) rfl (by decide +kernel) (by decide) (by decide) rfl (dc (.putfield 161, 3)) pf0_161 hj
theorem pf0_164 : pfR tables_1 y0.cls y0.name 164 = some ("MacroAssembler", 50, .array .int) := by decide +kernel
theorem m0_360a (hH : H.length = b) {vs : List Value} {r : AHeap} (hj : 50 < vs.length) : M0 360 (.val (.ref b) :: [l1, l2]) [] (H ++ (.object "MacroAssembler", vs) :: r) Q = M0 368 (.val (.ref b) :: [l1, l2]) [] (H ++ (.object "MacroAssembler", vs.set 50 (.ref (b + (r.length + 1)))) :: (r ++ [(.array .int, List.replicate 32 (.int 0))])) Q := w_iarr (n := 32) rfl hH (Nat.zero_le _) (dc (.aload_n 0, 1)) rfl (dc (.bipush 32, 2)) (fun _ => rfl) (by decide) (dc (.newarray .int, 2)) rfl (by decide +kernel) (by decide) (by decide) rfl (dc (.putfield 164, 3)) pf0_164 hj
theorem pf0_167 : pfR tables_1 y0.cls y0.name 167 = some ("MacroAssembler", 51, .array .int) := by decide +kernel
theorem m0_368a (hH : H.length = b) {vs : List Value} {r : AHeap} (hj : 51 < vs.length) : M0 368 (.val (.ref b) :: [l1, l2]) [] (H ++ (.object "MacroAssembler", vs) :: r) Q = M0 376 (.val (.ref b) :: [l1, l2]) [] (H ++ (.object "MacroAssembler", vs.set 51 (.ref (b + (r.length + 1)))) :: (r ++ [(.array .int, List.replicate 32 (.int 0))])) Q := w_iarr (n := 32) rfl hH (Nat.zero_le _) (dc (.aload_n 0, 1)) rfl (dc (.bipush 32, 2)) (fun _ => rfl) (by decide) (dc (.newarray .int, 2)) rfl (by decide +kernel) (by decide) (by decide) rfl (dc (.putfield 167, 3)) pf0_167 hj
theorem pf0_170 : pfR tables_1 y0.cls y0.name 170 = some ("MacroAssembler", 52, .array .boolean) := by decide +kernel
theorem m0_376a (hH : H.length = b) {vs : List Value} {r : AHeap} (hj : 52 < vs.length) : M0 376 (.val (.ref b) :: [l1, l2]) [] (H ++ (.object "MacroAssembler", vs) :: r) Q = M0 384 (.val (.ref b) :: [l1, l2]) [] (H ++ (.object "MacroAssembler", vs.set 52 (.ref (b + (r.length + 1)))) :: (r ++ [(.array .boolean, List.replicate 32 (.int 0))])) Q := w_iarr (n := 32) rfl hH (Nat.zero_le _) (dc (.aload_n 0, 1)) rfl (dc (.bipush 32, 2)) (fun _ => rfl) (by decide) (dc (.newarray .boolean, 2)) rfl (by decide +kernel) (by decide) (by decide) rfl (dc (.putfield 170, 3)) pf0_170 hj
theorem pf0_173 : pfR tables_1 y0.cls y0.name 173 = some ("MacroAssembler", 53, .array .long) := by decide +kernel
theorem m0_384a (hH : H.length = b) {vs : List Value} {r : AHeap} (hj : 53 < vs.length) : M0 384 (.val (.ref b) :: [l1, l2]) [] (H ++ (.object "MacroAssembler", vs) :: r) Q = M0 393 (.val (.ref b) :: [l1, l2]) [] (H ++ (.object "MacroAssembler", vs.set 53 (.ref (b + (r.length + 1)))) :: (r ++ [(.array .long, List.replicate 512 (.long 0))])) Q := w_iarr (n := 512) rfl hH (Nat.zero_le _) (dc (.aload_n 0, 1)) rfl (dc (.sipush 512, 3)) (fun _ => rfl) (by decide) (dc (.newarray .long, 2)) rfl (by decide +kernel) (by decide) (by decide) rfl (dc (.putfield 173, 3)) pf0_173 hj
theorem pf0_176 : pfR tables_1 y0.cls y0.name 176 = some ("MacroAssembler", 54, .array .int) := by decide +kernel
theorem m0_393a (hH : H.length = b) {vs : List Value} {r : AHeap} (hj : 54 < vs.length) : M0 393 (.val (.ref b) :: [l1, l2]) [] (H ++ (.object "MacroAssembler", vs) :: r) Q = M0 402 (.val (.ref b) :: [l1, l2]) [] (H ++ (.object "MacroAssembler", vs.set 54 (.ref (b + (r.length + 1)))) :: (r ++ [(.array .int, List.replicate 512 (.int 0))])) Q := w_iarr (n := 512) rfl hH (Nat.zero_le _) (dc (.aload_n 0, 1)) rfl (dc (.sipush 512, 3)) (fun _ => rfl) (by decide) (dc (.newarray .int, 2)) rfl (by decide +kernel) (by decide) (by decide) rfl (dc (.putfield 176, 3)) pf0_176 hj
def A0 : Nat → List Int32
  | 0 => List.replicate 640 0
  | 1 => List.replicate 640 0
  | 2 => List.replicate 640 0
  | 3 => List.replicate 32 0
  | 4 => List.replicate 16 0
  | 5 => List.replicate 624 0
  | 6 => List.replicate 12 0
  | 7 => List.replicate 8 0
  | 8 => List.replicate 8 0
  | 9 => List.replicate 8 0
  | 10 => List.replicate 8 0
  | 11 => List.replicate 8 0
  | 12 => List.replicate 8 0
  | 13 => List.replicate 8 0
  | 14 => List.replicate 8 0
  | 15 => List.replicate 8 0
  | 16 => List.replicate 8 0
  | 17 => List.replicate 32 0
  | 18 => List.replicate 2592 0
  | 19 => List.replicate 640 0
  | 20 => List.replicate 640 0
  | 21 => List.replicate 640 0
  | 22 => List.replicate 16 0
  | 23 => List.replicate 32 0
  | 24 => List.replicate 32 0
  | 25 => List.replicate 32 0
  | 26 => List.replicate 32 0
  | 27 => List.replicate 32 0
  | 28 => List.replicate 512 0
  | _ => []
def B0 : Nat → List Int64
  | 0 => List.replicate 16 0
  | 1 => List.replicate 8 0
  | 2 => List.replicate 640 0
  | 3 => List.replicate 16 0
  | 4 => List.replicate 512 0
  | _ => []
theorem A0l_0 : (A0 0).length = 640 := List.length_replicate
theorem A0g_0 (j : Int32) : getA (A0 0) j = 0 := getA_rep _ _
theorem A0l_1 : (A0 1).length = 640 := List.length_replicate
theorem A0g_1 (j : Int32) : getA (A0 1) j = 0 := getA_rep _ _
theorem A0l_2 : (A0 2).length = 640 := List.length_replicate
theorem A0g_2 (j : Int32) : getA (A0 2) j = 0 := getA_rep _ _
theorem A0l_3 : (A0 3).length = 32 := List.length_replicate
theorem A0g_3 (j : Int32) : getA (A0 3) j = 0 := getA_rep _ _
theorem A0l_4 : (A0 4).length = 16 := List.length_replicate
theorem A0g_4 (j : Int32) : getA (A0 4) j = 0 := getA_rep _ _
theorem A0l_5 : (A0 5).length = 624 := List.length_replicate
theorem A0g_5 (j : Int32) : getA (A0 5) j = 0 := getA_rep _ _
theorem A0l_6 : (A0 6).length = 12 := List.length_replicate
theorem A0g_6 (j : Int32) : getA (A0 6) j = 0 := getA_rep _ _
theorem A0l_7 : (A0 7).length = 8 := List.length_replicate
theorem A0g_7 (j : Int32) : getA (A0 7) j = 0 := getA_rep _ _
theorem A0l_8 : (A0 8).length = 8 := List.length_replicate
theorem A0g_8 (j : Int32) : getA (A0 8) j = 0 := getA_rep _ _
theorem A0l_9 : (A0 9).length = 8 := List.length_replicate
theorem A0g_9 (j : Int32) : getA (A0 9) j = 0 := getA_rep _ _
theorem A0l_10 : (A0 10).length = 8 := List.length_replicate
theorem A0g_10 (j : Int32) : getA (A0 10) j = 0 := getA_rep _ _
theorem A0l_11 : (A0 11).length = 8 := List.length_replicate
theorem A0g_11 (j : Int32) : getA (A0 11) j = 0 := getA_rep _ _
theorem A0l_12 : (A0 12).length = 8 := List.length_replicate
theorem A0g_12 (j : Int32) : getA (A0 12) j = 0 := getA_rep _ _
theorem A0l_13 : (A0 13).length = 8 := List.length_replicate
theorem A0g_13 (j : Int32) : getA (A0 13) j = 0 := getA_rep _ _
theorem A0l_14 : (A0 14).length = 8 := List.length_replicate
theorem A0g_14 (j : Int32) : getA (A0 14) j = 0 := getA_rep _ _
theorem A0l_15 : (A0 15).length = 8 := List.length_replicate
theorem A0g_15 (j : Int32) : getA (A0 15) j = 0 := getA_rep _ _
theorem A0l_16 : (A0 16).length = 8 := List.length_replicate
theorem A0g_16 (j : Int32) : getA (A0 16) j = 0 := getA_rep _ _
theorem A0l_17 : (A0 17).length = 32 := List.length_replicate
theorem A0g_17 (j : Int32) : getA (A0 17) j = 0 := getA_rep _ _
theorem A0l_18 : (A0 18).length = 2592 := List.length_replicate
theorem A0g_18 (j : Int32) : getA (A0 18) j = 0 := getA_rep _ _
theorem A0l_19 : (A0 19).length = 640 := List.length_replicate
theorem A0g_19 (j : Int32) : getA (A0 19) j = 0 := getA_rep _ _
theorem A0l_20 : (A0 20).length = 640 := List.length_replicate
theorem A0g_20 (j : Int32) : getA (A0 20) j = 0 := getA_rep _ _
theorem A0l_21 : (A0 21).length = 640 := List.length_replicate
theorem A0g_21 (j : Int32) : getA (A0 21) j = 0 := getA_rep _ _
theorem A0l_22 : (A0 22).length = 16 := List.length_replicate
theorem A0g_22 (j : Int32) : getA (A0 22) j = 0 := getA_rep _ _
theorem A0l_23 : (A0 23).length = 32 := List.length_replicate
theorem A0g_23 (j : Int32) : getA (A0 23) j = 0 := getA_rep _ _
theorem A0l_24 : (A0 24).length = 32 := List.length_replicate
theorem A0g_24 (j : Int32) : getA (A0 24) j = 0 := getA_rep _ _
theorem A0l_25 : (A0 25).length = 32 := List.length_replicate
theorem A0g_25 (j : Int32) : getA (A0 25) j = 0 := getA_rep _ _
theorem A0l_26 : (A0 26).length = 32 := List.length_replicate
theorem A0g_26 (j : Int32) : getA (A0 26) j = 0 := getA_rep _ _
theorem A0l_27 : (A0 27).length = 32 := List.length_replicate
theorem A0g_27 (j : Int32) : getA (A0 27) j = 0 := getA_rep _ _
theorem A0l_28 : (A0 28).length = 512 := List.length_replicate
theorem A0g_28 (j : Int32) : getA (A0 28) j = 0 := getA_rep _ _
theorem B0l_0 : (B0 0).length = 16 := List.length_replicate
theorem B0l_1 : (B0 1).length = 8 := List.length_replicate
theorem B0l_2 : (B0 2).length = 640 := List.length_replicate
theorem B0l_3 : (B0 3).length = 16 := List.length_replicate
theorem B0l_4 : (B0 4).length = 512 := List.length_replicate
def S0 : Nat → Int32
  | 0 => 1
  | 1 => 2
  | 2 => 1
  | 3 => 2
  | 4 => 3
  | 5 => 0
  | 6 => 1
  | 7 => 2
  | 8 => 0
  | 9 => 1
  | 10 => 2
  | 11 => 10
  | 12 => 11
  | 13 => 12
  | 14 => 13
  | 15 => 14
  | 16 => 15
  | 17 => 16
  | 18 => 17
  | 19 => 18
  | 20 => 81
  | _ => 0
theorem own_ctor0 (hb : pre.length = b) : M0 0 (.val (.ref b) :: [l1, l2]) [] (pre ++ [(.object "MacroAssembler", D0)]) Q = M0 402 (.val (.ref b) :: [l1, l2]) [] (put b pre S0 A0 (fun _ => 0) B0 []) Q := by
  rw [m0_0, m0_1, m0_4a hb (by (repeat rw [List.length_set]); exact Nat.le_of_ble_eq_true rfl), m0_9a hb (by (repeat rw [List.length_set]); exact Nat.le_of_ble_eq_true rfl), m0_14a hb (by (repeat rw [List.length_set]); exact Nat.le_of_ble_eq_true rfl), m0_19a hb (by (repeat rw [List.length_set]); exact Nat.le_of_ble_eq_true rfl), m0_24a hb (by (repeat rw [List.length_set]); exact Nat.le_of_ble_eq_true rfl), m0_29a hb (by (repeat rw [List.length_set]); exact Nat.le_of_ble_eq_true rfl), m0_34a hb (by (repeat rw [List.length_set]); exact Nat.le_of_ble_eq_true rfl), m0_39a hb (by (repeat rw [List.length_set]); exact Nat.le_of_ble_eq_true rfl), m0_44a hb (by (repeat rw [List.length_set]); exact Nat.le_of_ble_eq_true rfl), m0_49a hb (by (repeat rw [List.length_set]); exact Nat.le_of_ble_eq_true rfl), m0_54a hb (by (repeat rw [List.length_set]); exact Nat.le_of_ble_eq_true rfl), m0_59a hb (by (repeat rw [List.length_set]); exact Nat.le_of_ble_eq_true rfl), m0_65a hb (by (repeat rw [List.length_set]); exact Nat.le_of_ble_eq_true rfl), m0_71a hb (by (repeat rw [List.length_set]); exact Nat.le_of_ble_eq_true rfl), m0_77a hb (by (repeat rw [List.length_set]); exact Nat.le_of_ble_eq_true rfl), m0_83a hb (by (repeat rw [List.length_set]); exact Nat.le_of_ble_eq_true rfl), m0_89a hb (by (repeat rw [List.length_set]); exact Nat.le_of_ble_eq_true rfl), m0_95a hb (by (repeat rw [List.length_set]); exact Nat.le_of_ble_eq_true rfl), m0_101a hb (by (repeat rw [List.length_set]); exact Nat.le_of_ble_eq_true rfl), m0_107a hb (by (repeat rw [List.length_set]); exact Nat.le_of_ble_eq_true rfl), m0_113a hb (by (repeat rw [List.length_set]); exact Nat.le_of_ble_eq_true rfl), m0_119a hb (by (repeat rw [List.length_set]); exact Nat.le_of_ble_eq_true rfl), m0_128a hb (by (repeat rw [List.length_set]); exact Nat.le_of_ble_eq_true rfl), m0_137a hb (by (repeat rw [List.length_set]); exact Nat.le_of_ble_eq_true rfl), m0_146a hb (by (repeat rw [List.length_set]); exact Nat.le_of_ble_eq_true rfl), m0_154a hb (by (repeat rw [List.length_set]); exact Nat.le_of_ble_eq_true rfl), m0_162a hb (by (repeat rw [List.length_set]); exact Nat.le_of_ble_eq_true rfl), m0_170a hb (by (repeat rw [List.length_set]); exact Nat.le_of_ble_eq_true rfl), m0_179a hb (by (repeat rw [List.length_set]); exact Nat.le_of_ble_eq_true rfl), m0_187a hb (by (repeat rw [List.length_set]); exact Nat.le_of_ble_eq_true rfl), m0_195a hb (by (repeat rw [List.length_set]); exact Nat.le_of_ble_eq_true rfl), m0_203a hb (by (repeat rw [List.length_set]); exact Nat.le_of_ble_eq_true rfl), m0_211a hb (by (repeat rw [List.length_set]); exact Nat.le_of_ble_eq_true rfl), m0_219a hb (by (repeat rw [List.length_set]); exact Nat.le_of_ble_eq_true rfl), m0_227a hb (by (repeat rw [List.length_set]); exact Nat.le_of_ble_eq_true rfl), m0_235a hb (by (repeat rw [List.length_set]); exact Nat.le_of_ble_eq_true rfl), m0_243a hb (by (repeat rw [List.length_set]); exact Nat.le_of_ble_eq_true rfl), m0_251a hb (by (repeat rw [List.length_set]); exact Nat.le_of_ble_eq_true rfl), m0_259a hb (by (repeat rw [List.length_set]); exact Nat.le_of_ble_eq_true rfl), m0_267a hb (by (repeat rw [List.length_set]); exact Nat.le_of_ble_eq_true rfl), m0_275a hb (by (repeat rw [List.length_set]); exact Nat.le_of_ble_eq_true rfl), m0_283a hb (by (repeat rw [List.length_set]); exact Nat.le_of_ble_eq_true rfl), m0_292a hb (by (repeat rw [List.length_set]); exact Nat.le_of_ble_eq_true rfl), m0_301a hb (by (repeat rw [List.length_set]); exact Nat.le_of_ble_eq_true rfl), m0_310a hb (by (repeat rw [List.length_set]); exact Nat.le_of_ble_eq_true rfl), m0_319a hb (by (repeat rw [List.length_set]); exact Nat.le_of_ble_eq_true rfl), m0_328a hb (by (repeat rw [List.length_set]); exact Nat.le_of_ble_eq_true rfl), m0_336a hb (by (repeat rw [List.length_set]); exact Nat.le_of_ble_eq_true rfl), m0_344a hb (by (repeat rw [List.length_set]); exact Nat.le_of_ble_eq_true rfl), m0_352a hb (by (repeat rw [List.length_set]); exact Nat.le_of_ble_eq_true rfl), m0_360a hb (by (repeat rw [List.length_set]); exact Nat.le_of_ble_eq_true rfl), m0_368a hb (by (repeat rw [List.length_set]); exact Nat.le_of_ble_eq_true rfl), m0_376a hb (by (repeat rw [List.length_set]); exact Nat.le_of_ble_eq_true rfl), m0_384a hb (by (repeat rw [List.length_set]); exact Nat.le_of_ble_eq_true rfl), m0_393a hb (by (repeat rw [List.length_set]); exact Nat.le_of_ble_eq_true rfl)]
  simp only [put, pad_eq hb, objv, D0, A0, B0, S0, List.map_replicate, List.set_cons_succ, List.set_cons_zero, List.nil_append, List.cons_append, List.length_cons, List.length_nil, List.append_nil]
end Rules
def LN (A : Nat → List Int32) : Prop := ∀ i, (A i).length = (A0 i).length
def LNB (B : Nat → List Int64) : Prop := ∀ i, (B i).length = (B0 i).length
theorem LN_ou {A : Nat → List Int32} {j : Nat} {l : List Int32} (h : LN A) (hl : l.length = (A0 j).length) : LN (ou A j l) := len_ou h hl
theorem LNB_ou {B : Nat → List Int64} {j : Nat} {l : List Int64} (h : LNB B) (hl : l.length = (B0 j).length) : LNB (ou B j l) := fun i => by
  rw [ou_a]
  split
  · rename_i e; rw [e]; exact hl
  · exact h i
theorem own_sh0 (x : Int64) : XT.ushrL x 0 = x := by
  unfold XT.ushrL
  have e : ((0 : Int32).toInt64.toUInt64 &&& Int64.toUInt64 63) = 0 := by decide +kernel
  rw [e, UInt64.shiftRight_zero]
  exact Int64.toInt64_toUInt64 x
theorem bL {A : Nat → List Int32} (h : LN A) : (A 0).length = 640 ∧ (A 1).length = 640 ∧ (A 2).length = 640 ∧ (A 3).length = 32 ∧ (A 4).length = 16 ∧ (A 5).length = 624 ∧ (A 6).length = 12 ∧ (A 7).length = 8 ∧ (A 8).length = 8 ∧ (A 9).length = 8 ∧ (A 10).length = 8 ∧ (A 11).length = 8 ∧ (A 12).length = 8 ∧ (A 13).length = 8 ∧ (A 14).length = 8 ∧ (A 15).length = 8 ∧ (A 16).length = 8 ∧ (A 17).length = 32 ∧ (A 18).length = 2592 ∧ (A 19).length = 640 ∧ (A 20).length = 640 ∧ (A 21).length = 640 ∧ (A 22).length = 16 ∧ (A 23).length = 32 ∧ (A 24).length = 32 ∧ (A 25).length = 32 ∧ (A 26).length = 32 ∧ (A 27).length = 32 ∧ (A 28).length = 512 := ⟨(h 0).trans A0l_0, (h 1).trans A0l_1, (h 2).trans A0l_2, (h 3).trans A0l_3, (h 4).trans A0l_4, (h 5).trans A0l_5, (h 6).trans A0l_6, (h 7).trans A0l_7, (h 8).trans A0l_8, (h 9).trans A0l_9, (h 10).trans A0l_10, (h 11).trans A0l_11, (h 12).trans A0l_12, (h 13).trans A0l_13, (h 14).trans A0l_14, (h 15).trans A0l_15, (h 16).trans A0l_16, (h 17).trans A0l_17, (h 18).trans A0l_18, (h 19).trans A0l_19, (h 20).trans A0l_20, (h 21).trans A0l_21, (h 22).trans A0l_22, (h 23).trans A0l_23, (h 24).trans A0l_24, (h 25).trans A0l_25, (h 26).trans A0l_26, (h 27).trans A0l_27, (h 28).trans A0l_28⟩
theorem bB {B : Nat → List Int64} (h : LNB B) : (B 0).length = 16 ∧ (B 1).length = 8 ∧ (B 2).length = 640 ∧ (B 3).length = 16 ∧ (B 4).length = 512 := ⟨(h 0).trans List.length_replicate, (h 1).trans List.length_replicate, (h 2).trans List.length_replicate, (h 3).trans List.length_replicate, (h 4).trans List.length_replicate⟩
def own_g0 (s : Nat → Int32) (A : Nat → List Int32) (L : Nat → Int64) (B : Nat → List Int64) (c2 c3 c4 d2 d3 d4 P R K : Int32) : Prop := getA (A 0) 0 = 77 ∧ getA (A 0) 1 = 32 ∧ getA (A 0) 2 = 77 ∧ getA (A 0) 3 = 65 ∧ getA (A 0) 4 = 67 ∧ getA (A 0) 5 = 82 ∧ getA (A 0) 6 = 79
def own_g1 (s : Nat → Int32) (A : Nat → List Int32) (L : Nat → Int64) (B : Nat → List Int64) (c2 c3 c4 d2 d3 d4 P R K : Int32) : Prop := getA (A 0) 10 = 58 ∧ getA (A 0) 11 = 32 ∧ getA (A 0) 12 = 76 ∧ getA (A 0) 13 = 68 ∧ getA (A 0) 14 = 65 ∧ getA (A 0) 15 = 32 ∧ getA (A 0) 8 = 37 ∧ getA (A 0) 9 = 76
def own_g2 (s : Nat → Int32) (A : Nat → List Int32) (L : Nat → Int64) (B : Nat → List Int64) (c2 c3 c4 d2 d3 d4 P R K : Int32) : Prop := getA (A 0) 19 = 69 ∧ getA (A 0) 20 = 78 ∧ getA (A 0) 21 = 68 ∧ getA (A 0) 22 = 77
def own_g3 (s : Nat → Int32) (A : Nat → List Int32) (L : Nat → Int64) (B : Nat → List Int64) (c2 c3 c4 d2 d3 d4 P R K : Int32) : Prop := getA (A 0) 24 = 77 ∧ getA (A 0) 25 = 32 ∧ getA (A 0) 26 = c2 ∧ getA (A 0) 27 = c3 ∧ getA (A 0) 28 = c4
def own_g4 (s : Nat → Int32) (A : Nat → List Int32) (L : Nat → Int64) (B : Nat → List Int64) (c2 c3 c4 d2 d3 d4 P R K : Int32) : Prop := getA (A 0) 30 = 77 ∧ getA (A 0) 31 = 32 ∧ getA (A 0) 32 = d2 ∧ getA (A 0) 33 = d3 ∧ getA (A 0) 34 = d4
def own_g5 (s : Nat → Int32) (A : Nat → List Int32) (L : Nat → Int64) (B : Nat → List Int64) (c2 c3 c4 d2 d3 d4 P R K : Int32) : Prop := getA (A 0) 36 = 74 ∧ getA (A 0) 37 = 90 ∧ getA (A 0) 38 = 32 ∧ getA (A 0) 39 = 76 ∧ getA (A 0) 40 = 95 ∧ getA (A 0) 41 = 50
def own_g6 (s : Nat → Int32) (A : Nat → List Int32) (L : Nat → Int64) (B : Nat → List Int64) (c2 c3 c4 d2 d3 d4 P R K : Int32) : Prop := getA (A 0) 43 = 74 ∧ getA (A 0) 44 = 77 ∧ getA (A 0) 45 = 80 ∧ getA (A 0) 46 = 32 ∧ getA (A 0) 47 = 69
def own_g7 (s : Nat → Int32) (A : Nat → List Int32) (L : Nat → Int64) (B : Nat → List Int64) (c2 c3 c4 d2 d3 d4 P R K : Int32) : Prop := getA (A 0) 49 = 69 ∧ getA (A 0) 50 = 58 ∧ getA (A 0) 51 = 32 ∧ getA (A 0) 52 = 72 ∧ getA (A 0) 53 = 76 ∧ getA (A 0) 54 = 84
def own_g8 (s : Nat → Int32) (A : Nat → List Int32) (L : Nat → Int64) (B : Nat → List Int64) (c2 c3 c4 d2 d3 d4 P R K : Int32) : Prop := getA (A 12) 0 = (-1) ∧ getA (A 9) 0 = 3 ∧ s 33 = 1 ∧ s 34 = 0 ∧ s 36 = 2
def own_g9 (s : Nat → Int32) (A : Nat → List Int32) (L : Nat → Int64) (B : Nat → List Int64) (c2 c3 c4 d2 d3 d4 P R K : Int32) : Prop := getA (A 14) 0 = 2 ∧ getA (A 18) 0 = d2 ∧ getA (A 18) 1 = d3 ∧ getA (A 18) 2 = d4 ∧ s 40 = 6
def own_g10 (s : Nat → Int32) (A : Nat → List Int32) (L : Nat → Int64) (B : Nat → List Int64) (c2 c3 c4 d2 d3 d4 P R K : Int32) : Prop := getA (A 24) 0 = 7 ∧ getA (A 25) 0 = 0 ∧ getA (A 26) 0 = 1 ∧ getA (A 27) 0 = 0 ∧ getA (A 28) 0 = 1 ∧ getL (B 4) 0 = 69 ∧ s 54 = 1
def own_s0 (s : Nat → Int32) (A : Nat → List Int32) (L : Nat → Int64) (B : Nat → List Int64) (c2 c3 c4 d2 d3 d4 P R K : Int32) : Prop := LN A ∧ LNB B ∧ s 21 = K ∧ s 22 = 0
def own_s1 (s : Nat → Int32) (A : Nat → List Int32) (L : Nat → Int64) (B : Nat → List Int64) (c2 c3 c4 d2 d3 d4 P R K : Int32) : Prop := LN A ∧ LNB B ∧ own_g0 s A L B c2 c3 c4 d2 d3 d4 P R K ∧ getA (A 0) 7 = 10 ∧ s 21 = K ∧ s 22 = 8
def own_s3 (s : Nat → Int32) (A : Nat → List Int32) (L : Nat → Int64) (B : Nat → List Int64) (c2 c3 c4 d2 d3 d4 P R K : Int32) : Prop := LN A ∧ LNB B ∧ own_g0 s A L B c2 c3 c4 d2 d3 d4 P R K ∧ own_g1 s A L B c2 c3 c4 d2 d3 d4 P R K ∧ getA (A 0) 7 = 10 ∧ s 21 = K ∧ s 22 = 16
def own_s5 (s : Nat → Int32) (A : Nat → List Int32) (L : Nat → Int64) (B : Nat → List Int64) (c2 c3 c4 d2 d3 d4 P R K : Int32) : Prop := LN A ∧ LNB B ∧ own_g0 s A L B c2 c3 c4 d2 d3 d4 P R K ∧ own_g1 s A L B c2 c3 c4 d2 d3 d4 P R K ∧ getA (A 0) 16 = 92 ∧ getA (A 0) 17 = 49 ∧ getA (A 0) 18 = 10 ∧ getA (A 0) 7 = 10 ∧ s 21 = K ∧ s 22 = 19
def own_s7 (s : Nat → Int32) (A : Nat → List Int32) (L : Nat → Int64) (B : Nat → List Int64) (c2 c3 c4 d2 d3 d4 P R K : Int32) : Prop := LN A ∧ LNB B ∧ own_g0 s A L B c2 c3 c4 d2 d3 d4 P R K ∧ own_g1 s A L B c2 c3 c4 d2 d3 d4 P R K ∧ own_g2 s A L B c2 c3 c4 d2 d3 d4 P R K ∧ getA (A 0) 16 = 92 ∧ getA (A 0) 17 = 49 ∧ getA (A 0) 18 = 10 ∧ getA (A 0) 23 = 10 ∧ getA (A 0) 7 = 10 ∧ s 21 = K ∧ s 22 = 24
def own_s9 (s : Nat → Int32) (A : Nat → List Int32) (L : Nat → Int64) (B : Nat → List Int64) (c2 c3 c4 d2 d3 d4 P R K : Int32) : Prop := LN A ∧ LNB B ∧ own_g0 s A L B c2 c3 c4 d2 d3 d4 P R K ∧ own_g1 s A L B c2 c3 c4 d2 d3 d4 P R K ∧ own_g2 s A L B c2 c3 c4 d2 d3 d4 P R K ∧ own_g3 s A L B c2 c3 c4 d2 d3 d4 P R K ∧ getA (A 0) 16 = 92 ∧ getA (A 0) 17 = 49 ∧ getA (A 0) 18 = 10 ∧ getA (A 0) 23 = 10 ∧ getA (A 0) 29 = 10 ∧ getA (A 0) 7 = 10 ∧ s 21 = K ∧ s 22 = 30
def own_s11 (s : Nat → Int32) (A : Nat → List Int32) (L : Nat → Int64) (B : Nat → List Int64) (c2 c3 c4 d2 d3 d4 P R K : Int32) : Prop := LN A ∧ LNB B ∧ own_g0 s A L B c2 c3 c4 d2 d3 d4 P R K ∧ own_g1 s A L B c2 c3 c4 d2 d3 d4 P R K ∧ own_g2 s A L B c2 c3 c4 d2 d3 d4 P R K ∧ own_g3 s A L B c2 c3 c4 d2 d3 d4 P R K ∧ own_g4 s A L B c2 c3 c4 d2 d3 d4 P R K ∧ getA (A 0) 16 = 92 ∧ getA (A 0) 17 = 49 ∧ getA (A 0) 18 = 10 ∧ getA (A 0) 23 = 10 ∧ getA (A 0) 29 = 10 ∧ getA (A 0) 35 = 10 ∧ getA (A 0) 7 = 10 ∧ s 21 = K ∧ s 22 = 36
def own_s13 (s : Nat → Int32) (A : Nat → List Int32) (L : Nat → Int64) (B : Nat → List Int64) (c2 c3 c4 d2 d3 d4 P R K : Int32) : Prop := LN A ∧ LNB B ∧ own_g0 s A L B c2 c3 c4 d2 d3 d4 P R K ∧ own_g1 s A L B c2 c3 c4 d2 d3 d4 P R K ∧ own_g2 s A L B c2 c3 c4 d2 d3 d4 P R K ∧ own_g3 s A L B c2 c3 c4 d2 d3 d4 P R K ∧ own_g4 s A L B c2 c3 c4 d2 d3 d4 P R K ∧ own_g5 s A L B c2 c3 c4 d2 d3 d4 P R K ∧ getA (A 0) 16 = 92 ∧ getA (A 0) 17 = 49 ∧ getA (A 0) 18 = 10 ∧ getA (A 0) 23 = 10 ∧ getA (A 0) 29 = 10 ∧ getA (A 0) 35 = 10 ∧ getA (A 0) 42 = 10 ∧ getA (A 0) 7 = 10 ∧ s 21 = K ∧ s 22 = 43
def own_s15 (s : Nat → Int32) (A : Nat → List Int32) (L : Nat → Int64) (B : Nat → List Int64) (c2 c3 c4 d2 d3 d4 P R K : Int32) : Prop := LN A ∧ LNB B ∧ own_g0 s A L B c2 c3 c4 d2 d3 d4 P R K ∧ own_g1 s A L B c2 c3 c4 d2 d3 d4 P R K ∧ own_g2 s A L B c2 c3 c4 d2 d3 d4 P R K ∧ own_g3 s A L B c2 c3 c4 d2 d3 d4 P R K ∧ own_g4 s A L B c2 c3 c4 d2 d3 d4 P R K ∧ own_g5 s A L B c2 c3 c4 d2 d3 d4 P R K ∧ own_g6 s A L B c2 c3 c4 d2 d3 d4 P R K ∧ getA (A 0) 16 = 92 ∧ getA (A 0) 17 = 49 ∧ getA (A 0) 18 = 10 ∧ getA (A 0) 23 = 10 ∧ getA (A 0) 29 = 10 ∧ getA (A 0) 35 = 10 ∧ getA (A 0) 42 = 10 ∧ getA (A 0) 48 = 10 ∧ getA (A 0) 7 = 10 ∧ s 21 = K ∧ s 22 = 49
def own_s17 (s : Nat → Int32) (A : Nat → List Int32) (L : Nat → Int64) (B : Nat → List Int64) (c2 c3 c4 d2 d3 d4 P R K : Int32) : Prop := LN A ∧ LNB B ∧ own_g0 s A L B c2 c3 c4 d2 d3 d4 P R K ∧ own_g1 s A L B c2 c3 c4 d2 d3 d4 P R K ∧ own_g2 s A L B c2 c3 c4 d2 d3 d4 P R K ∧ own_g3 s A L B c2 c3 c4 d2 d3 d4 P R K ∧ own_g4 s A L B c2 c3 c4 d2 d3 d4 P R K ∧ own_g5 s A L B c2 c3 c4 d2 d3 d4 P R K ∧ own_g6 s A L B c2 c3 c4 d2 d3 d4 P R K ∧ own_g7 s A L B c2 c3 c4 d2 d3 d4 P R K ∧ getA (A 0) 16 = 92 ∧ getA (A 0) 17 = 49 ∧ getA (A 0) 18 = 10 ∧ getA (A 0) 23 = 10 ∧ getA (A 0) 29 = 10 ∧ getA (A 0) 35 = 10 ∧ getA (A 0) 42 = 10 ∧ getA (A 0) 48 = 10 ∧ getA (A 0) 7 = 10 ∧ s 21 = K ∧ s 22 = 55
def own_s19 (s : Nat → Int32) (A : Nat → List Int32) (L : Nat → Int64) (B : Nat → List Int64) (c2 c3 c4 d2 d3 d4 P R K : Int32) : Prop := LN A ∧ LNB B ∧ own_g0 s A L B c2 c3 c4 d2 d3 d4 P R K ∧ own_g1 s A L B c2 c3 c4 d2 d3 d4 P R K ∧ own_g2 s A L B c2 c3 c4 d2 d3 d4 P R K ∧ own_g3 s A L B c2 c3 c4 d2 d3 d4 P R K ∧ own_g4 s A L B c2 c3 c4 d2 d3 d4 P R K ∧ own_g5 s A L B c2 c3 c4 d2 d3 d4 P R K ∧ own_g6 s A L B c2 c3 c4 d2 d3 d4 P R K ∧ own_g7 s A L B c2 c3 c4 d2 d3 d4 P R K ∧ getA (A 0) 16 = 92 ∧ getA (A 0) 17 = 49 ∧ getA (A 1) 0 = 0 ∧ getA (A 1) 1 = 8 ∧ getA (A 1) 2 = 19 ∧ getA (A 1) 3 = 24 ∧ getA (A 1) 4 = 30 ∧ getA (A 1) 5 = 36 ∧ getA (A 1) 6 = 43 ∧ getA (A 1) 7 = 49 ∧ getA (A 2) 0 = 7 ∧ getA (A 2) 1 = 18 ∧ getA (A 2) 2 = 23 ∧ getA (A 2) 3 = 29 ∧ getA (A 2) 4 = 35 ∧ getA (A 2) 5 = 42 ∧ getA (A 2) 6 = 48 ∧ getA (A 2) 7 = 55 ∧ s 21 = K ∧ s 23 = 8 ∧ s 28 = 0 ∧ s 31 = 0 ∧ s 33 = 0 ∧ s 34 = (-1) ∧ s 35 = 0 ∧ s 36 = 8 ∧ s 37 = 0 ∧ s 40 = 0 ∧ s 41 = 0 ∧ s 42 = 0 ∧ s 44 = 0 ∧ s 45 = 0 ∧ s 54 = 0
def own_s21 (s : Nat → Int32) (A : Nat → List Int32) (L : Nat → Int64) (B : Nat → List Int64) (c2 c3 c4 d2 d3 d4 P R K : Int32) : Prop := LN A ∧ LNB B ∧ own_g1 s A L B c2 c3 c4 d2 d3 d4 P R K ∧ own_g2 s A L B c2 c3 c4 d2 d3 d4 P R K ∧ own_g3 s A L B c2 c3 c4 d2 d3 d4 P R K ∧ own_g4 s A L B c2 c3 c4 d2 d3 d4 P R K ∧ own_g5 s A L B c2 c3 c4 d2 d3 d4 P R K ∧ own_g6 s A L B c2 c3 c4 d2 d3 d4 P R K ∧ own_g7 s A L B c2 c3 c4 d2 d3 d4 P R K ∧ getA (A 0) 16 = 92 ∧ getA (A 0) 17 = 49 ∧ getA (A 1) 1 = 8 ∧ getA (A 1) 2 = 19 ∧ getA (A 1) 3 = 24 ∧ getA (A 1) 4 = 30 ∧ getA (A 1) 5 = 36 ∧ getA (A 1) 6 = 43 ∧ getA (A 1) 7 = 49 ∧ getA (A 2) 1 = 18 ∧ getA (A 2) 2 = 23 ∧ getA (A 2) 3 = 29 ∧ getA (A 2) 4 = 35 ∧ getA (A 2) 5 = 42 ∧ getA (A 2) 6 = 48 ∧ getA (A 2) 7 = 55 ∧ getA (A 7) 0 = 1 ∧ getL (B 1) 0 = 77 ∧ s 21 = K ∧ s 23 = 8 ∧ s 28 = 0 ∧ s 31 = 1 ∧ s 32 = 0 ∧ s 33 = 0 ∧ s 34 = (-1) ∧ s 35 = 1 ∧ s 36 = 8 ∧ s 37 = 1 ∧ s 40 = 1 ∧ s 41 = 0 ∧ s 42 = 0 ∧ s 44 = 0 ∧ s 45 = 0 ∧ s 54 = 0
def own_s23 (s : Nat → Int32) (A : Nat → List Int32) (L : Nat → Int64) (B : Nat → List Int64) (c2 c3 c4 d2 d3 d4 P R K : Int32) : Prop := LN A ∧ LNB B ∧ own_g1 s A L B c2 c3 c4 d2 d3 d4 P R K ∧ own_g2 s A L B c2 c3 c4 d2 d3 d4 P R K ∧ own_g3 s A L B c2 c3 c4 d2 d3 d4 P R K ∧ own_g4 s A L B c2 c3 c4 d2 d3 d4 P R K ∧ own_g5 s A L B c2 c3 c4 d2 d3 d4 P R K ∧ own_g6 s A L B c2 c3 c4 d2 d3 d4 P R K ∧ own_g7 s A L B c2 c3 c4 d2 d3 d4 P R K ∧ getA (A 0) 16 = 92 ∧ getA (A 0) 17 = 49 ∧ getA (A 1) 1 = 8 ∧ getA (A 1) 2 = 19 ∧ getA (A 1) 3 = 24 ∧ getA (A 1) 4 = 30 ∧ getA (A 1) 5 = 36 ∧ getA (A 1) 6 = 43 ∧ getA (A 1) 7 = 49 ∧ getA (A 2) 1 = 18 ∧ getA (A 2) 2 = 23 ∧ getA (A 2) 3 = 29 ∧ getA (A 2) 4 = 35 ∧ getA (A 2) 5 = 42 ∧ getA (A 2) 6 = 48 ∧ getA (A 2) 7 = 55 ∧ getA (A 7) 0 = 1 ∧ getL (B 1) 0 = 77 ∧ s 21 = K ∧ s 23 = 8 ∧ s 28 = 0 ∧ s 31 = 1 ∧ s 32 = 0 ∧ s 33 = 0 ∧ s 34 = (-1) ∧ s 35 = 2 ∧ s 36 = 8 ∧ s 37 = 1 ∧ s 40 = 2 ∧ s 41 = 0 ∧ s 42 = 0 ∧ s 44 = 0 ∧ s 45 = 0 ∧ s 54 = 0
def own_s25 (s : Nat → Int32) (A : Nat → List Int32) (L : Nat → Int64) (B : Nat → List Int64) (c2 c3 c4 d2 d3 d4 P R K : Int32) : Prop := LN A ∧ LNB B ∧ own_g1 s A L B c2 c3 c4 d2 d3 d4 P R K ∧ own_g3 s A L B c2 c3 c4 d2 d3 d4 P R K ∧ own_g4 s A L B c2 c3 c4 d2 d3 d4 P R K ∧ own_g5 s A L B c2 c3 c4 d2 d3 d4 P R K ∧ own_g6 s A L B c2 c3 c4 d2 d3 d4 P R K ∧ own_g7 s A L B c2 c3 c4 d2 d3 d4 P R K ∧ getA (A 0) 16 = 92 ∧ getA (A 0) 17 = 49 ∧ getA (A 1) 1 = 8 ∧ getA (A 1) 3 = 24 ∧ getA (A 1) 4 = 30 ∧ getA (A 1) 5 = 36 ∧ getA (A 1) 6 = 43 ∧ getA (A 1) 7 = 49 ∧ getA (A 2) 1 = 18 ∧ getA (A 2) 3 = 29 ∧ getA (A 2) 4 = 35 ∧ getA (A 2) 5 = 42 ∧ getA (A 2) 6 = 48 ∧ getA (A 2) 7 = 55 ∧ getA (A 7) 0 = 1 ∧ getA (A 8) 0 = 2 ∧ getL (B 1) 0 = 77 ∧ s 21 = K ∧ s 23 = 8 ∧ s 28 = 0 ∧ s 31 = 1 ∧ s 33 = 0 ∧ s 34 = (-1) ∧ s 35 = 3 ∧ s 36 = 8 ∧ s 37 = 0 ∧ s 40 = 3 ∧ s 41 = 0 ∧ s 42 = 0 ∧ s 44 = 0 ∧ s 45 = 0 ∧ s 54 = 0
def own_s27 (s : Nat → Int32) (A : Nat → List Int32) (L : Nat → Int64) (B : Nat → List Int64) (c2 c3 c4 d2 d3 d4 P R K : Int32) : Prop := LN A ∧ LNB B ∧ own_g1 s A L B c2 c3 c4 d2 d3 d4 P R K ∧ own_g4 s A L B c2 c3 c4 d2 d3 d4 P R K ∧ own_g5 s A L B c2 c3 c4 d2 d3 d4 P R K ∧ own_g6 s A L B c2 c3 c4 d2 d3 d4 P R K ∧ own_g7 s A L B c2 c3 c4 d2 d3 d4 P R K ∧ own_g8 s A L B c2 c3 c4 d2 d3 d4 P R K ∧ getA (A 0) 16 = 92 ∧ getA (A 0) 17 = 49 ∧ getA (A 1) 1 = 8 ∧ getA (A 1) 4 = 30 ∧ getA (A 1) 5 = 36 ∧ getA (A 1) 6 = 43 ∧ getA (A 1) 7 = 49 ∧ getA (A 13) 0 = 4 ∧ getA (A 14) 0 = 1 ∧ getA (A 15) 0 = 4 ∧ getA (A 16) 0 = 1 ∧ getA (A 17) 0 = 3 ∧ getA (A 18) 0 = c2 ∧ getA (A 18) 1 = c3 ∧ getA (A 18) 2 = c4 ∧ getA (A 2) 1 = 18 ∧ getA (A 2) 4 = 35 ∧ getA (A 2) 5 = 42 ∧ getA (A 2) 6 = 48 ∧ getA (A 2) 7 = 55 ∧ getA (A 7) 0 = 1 ∧ getA (A 8) 0 = 2 ∧ getL (B 1) 0 = 77 ∧ s 21 = K ∧ s 23 = 8 ∧ s 28 = 0 ∧ s 31 = 1 ∧ s 35 = 1 ∧ s 37 = 0 ∧ s 40 = 4 ∧ s 41 = 0 ∧ s 42 = 1 ∧ s 44 = 0 ∧ s 45 = 0 ∧ s 54 = 0
def own_s29L (s : Nat → Int32) (A : Nat → List Int32) (L : Nat → Int64) (B : Nat → List Int64) (c2 c3 c4 d2 d3 d4 P R K : Int32) : Prop := LN A ∧ LNB B ∧ own_g1 s A L B c2 c3 c4 d2 d3 d4 P R K ∧ own_g4 s A L B c2 c3 c4 d2 d3 d4 P R K ∧ own_g5 s A L B c2 c3 c4 d2 d3 d4 P R K ∧ own_g6 s A L B c2 c3 c4 d2 d3 d4 P R K ∧ own_g7 s A L B c2 c3 c4 d2 d3 d4 P R K ∧ own_g8 s A L B c2 c3 c4 d2 d3 d4 P R K ∧ getA (A 0) 16 = 92 ∧ getA (A 0) 17 = 49 ∧ getA (A 1) 1 = 8 ∧ getA (A 1) 4 = 30 ∧ getA (A 1) 5 = 36 ∧ getA (A 1) 6 = 43 ∧ getA (A 1) 7 = 49 ∧ getA (A 13) 0 = 4 ∧ getA (A 15) 0 = 4 ∧ getA (A 2) 1 = 18 ∧ getA (A 2) 4 = 35 ∧ getA (A 2) 5 = 42 ∧ getA (A 2) 6 = 48 ∧ getA (A 2) 7 = 55 ∧ getA (A 3) 0 = 129 ∧ getA (A 3) 1 = (P &&& 255) ∧ getA (A 4) 0 = 0 ∧ getA (A 7) 0 = 1 ∧ getA (A 8) 0 = 2 ∧ getL (B 0) 0 = 1257393 ∧ getL (B 1) 0 = 77 ∧ s 21 = K ∧ s 23 = 8 ∧ s 28 = 1 ∧ s 31 = 1 ∧ s 35 = 2 ∧ s 37 = 0 ∧ s 40 = 5 ∧ s 41 = 2 ∧ s 42 = 1 ∧ s 44 = 0 ∧ s 45 = 0 ∧ s 54 = 0
def own_s29S (s : Nat → Int32) (A : Nat → List Int32) (L : Nat → Int64) (B : Nat → List Int64) (c2 c3 c4 d2 d3 d4 P R K : Int32) : Prop := LN A ∧ LNB B ∧ own_g1 s A L B c2 c3 c4 d2 d3 d4 P R K ∧ own_g4 s A L B c2 c3 c4 d2 d3 d4 P R K ∧ own_g5 s A L B c2 c3 c4 d2 d3 d4 P R K ∧ own_g6 s A L B c2 c3 c4 d2 d3 d4 P R K ∧ own_g7 s A L B c2 c3 c4 d2 d3 d4 P R K ∧ own_g8 s A L B c2 c3 c4 d2 d3 d4 P R K ∧ getA (A 0) 16 = 92 ∧ getA (A 0) 17 = 49 ∧ getA (A 1) 1 = 8 ∧ getA (A 1) 4 = 30 ∧ getA (A 1) 5 = 36 ∧ getA (A 1) 6 = 43 ∧ getA (A 1) 7 = 49 ∧ getA (A 13) 0 = 4 ∧ getA (A 15) 0 = 4 ∧ getA (A 2) 1 = 18 ∧ getA (A 2) 4 = 35 ∧ getA (A 2) 5 = 42 ∧ getA (A 2) 6 = 48 ∧ getA (A 2) 7 = 55 ∧ getA (A 3) 0 = (16 + P) ∧ getA (A 4) 0 = 0 ∧ getA (A 7) 0 = 1 ∧ getA (A 8) 0 = 2 ∧ getL (B 0) 0 = 1257393 ∧ getL (B 1) 0 = 77 ∧ s 21 = K ∧ s 23 = 8 ∧ s 28 = 1 ∧ s 31 = 1 ∧ s 35 = 2 ∧ s 37 = 0 ∧ s 40 = 5 ∧ s 41 = 1 ∧ s 42 = 1 ∧ s 44 = 0 ∧ s 45 = 0 ∧ s 54 = 0
def own_s31L (s : Nat → Int32) (A : Nat → List Int32) (L : Nat → Int64) (B : Nat → List Int64) (c2 c3 c4 d2 d3 d4 P R K : Int32) : Prop := LN A ∧ LNB B ∧ own_g1 s A L B c2 c3 c4 d2 d3 d4 P R K ∧ own_g4 s A L B c2 c3 c4 d2 d3 d4 P R K ∧ own_g5 s A L B c2 c3 c4 d2 d3 d4 P R K ∧ own_g6 s A L B c2 c3 c4 d2 d3 d4 P R K ∧ own_g7 s A L B c2 c3 c4 d2 d3 d4 P R K ∧ getA (A 0) 16 = 92 ∧ getA (A 0) 17 = 49 ∧ getA (A 1) 1 = 8 ∧ getA (A 1) 4 = 30 ∧ getA (A 1) 5 = 36 ∧ getA (A 1) 6 = 43 ∧ getA (A 1) 7 = 49 ∧ getA (A 2) 1 = 18 ∧ getA (A 2) 4 = 35 ∧ getA (A 2) 5 = 42 ∧ getA (A 2) 6 = 48 ∧ getA (A 2) 7 = 55 ∧ getA (A 3) 0 = 129 ∧ getA (A 3) 1 = (P &&& 255) ∧ getA (A 4) 0 = 0 ∧ getA (A 7) 0 = 1 ∧ getA (A 8) 0 = 2 ∧ getL (B 0) 0 = 1257393 ∧ getL (B 1) 0 = 77 ∧ s 21 = K ∧ s 23 = 8 ∧ s 28 = 1 ∧ s 31 = 1 ∧ s 33 = 0 ∧ s 34 = (-1) ∧ s 35 = 4 ∧ s 36 = 8 ∧ s 37 = 0 ∧ s 40 = 5 ∧ s 41 = 2 ∧ s 42 = 1 ∧ s 44 = 0 ∧ s 45 = 0 ∧ s 54 = 0
def own_s31S (s : Nat → Int32) (A : Nat → List Int32) (L : Nat → Int64) (B : Nat → List Int64) (c2 c3 c4 d2 d3 d4 P R K : Int32) : Prop := LN A ∧ LNB B ∧ own_g1 s A L B c2 c3 c4 d2 d3 d4 P R K ∧ own_g4 s A L B c2 c3 c4 d2 d3 d4 P R K ∧ own_g5 s A L B c2 c3 c4 d2 d3 d4 P R K ∧ own_g6 s A L B c2 c3 c4 d2 d3 d4 P R K ∧ own_g7 s A L B c2 c3 c4 d2 d3 d4 P R K ∧ getA (A 0) 16 = 92 ∧ getA (A 0) 17 = 49 ∧ getA (A 1) 1 = 8 ∧ getA (A 1) 4 = 30 ∧ getA (A 1) 5 = 36 ∧ getA (A 1) 6 = 43 ∧ getA (A 1) 7 = 49 ∧ getA (A 2) 1 = 18 ∧ getA (A 2) 4 = 35 ∧ getA (A 2) 5 = 42 ∧ getA (A 2) 6 = 48 ∧ getA (A 2) 7 = 55 ∧ getA (A 3) 0 = (16 + P) ∧ getA (A 4) 0 = 0 ∧ getA (A 7) 0 = 1 ∧ getA (A 8) 0 = 2 ∧ getL (B 0) 0 = 1257393 ∧ getL (B 1) 0 = 77 ∧ s 21 = K ∧ s 23 = 8 ∧ s 28 = 1 ∧ s 31 = 1 ∧ s 33 = 0 ∧ s 34 = (-1) ∧ s 35 = 4 ∧ s 36 = 8 ∧ s 37 = 0 ∧ s 40 = 5 ∧ s 41 = 1 ∧ s 42 = 1 ∧ s 44 = 0 ∧ s 45 = 0 ∧ s 54 = 0
def own_s33L (s : Nat → Int32) (A : Nat → List Int32) (L : Nat → Int64) (B : Nat → List Int64) (c2 c3 c4 d2 d3 d4 P R K : Int32) : Prop := LN A ∧ LNB B ∧ own_g1 s A L B c2 c3 c4 d2 d3 d4 P R K ∧ own_g5 s A L B c2 c3 c4 d2 d3 d4 P R K ∧ own_g6 s A L B c2 c3 c4 d2 d3 d4 P R K ∧ own_g7 s A L B c2 c3 c4 d2 d3 d4 P R K ∧ own_g8 s A L B c2 c3 c4 d2 d3 d4 P R K ∧ own_g9 s A L B c2 c3 c4 d2 d3 d4 P R K ∧ getA (A 0) 16 = 92 ∧ getA (A 0) 17 = 49 ∧ getA (A 1) 1 = 8 ∧ getA (A 1) 5 = 36 ∧ getA (A 1) 6 = 43 ∧ getA (A 1) 7 = 49 ∧ getA (A 13) 0 = 5 ∧ getA (A 15) 0 = 5 ∧ getA (A 16) 0 = 1 ∧ getA (A 17) 0 = 3 ∧ getA (A 2) 1 = 18 ∧ getA (A 2) 5 = 42 ∧ getA (A 2) 6 = 48 ∧ getA (A 2) 7 = 55 ∧ getA (A 3) 0 = 129 ∧ getA (A 3) 1 = (P &&& 255) ∧ getA (A 4) 0 = 0 ∧ getL (B 0) 0 = 1257393 ∧ s 21 = K ∧ s 23 = 8 ∧ s 28 = 1 ∧ s 35 = 1 ∧ s 37 = 0 ∧ s 41 = 2 ∧ s 42 = 2 ∧ s 44 = 0 ∧ s 45 = 0 ∧ s 54 = 0
def own_s33S (s : Nat → Int32) (A : Nat → List Int32) (L : Nat → Int64) (B : Nat → List Int64) (c2 c3 c4 d2 d3 d4 P R K : Int32) : Prop := LN A ∧ LNB B ∧ own_g1 s A L B c2 c3 c4 d2 d3 d4 P R K ∧ own_g5 s A L B c2 c3 c4 d2 d3 d4 P R K ∧ own_g6 s A L B c2 c3 c4 d2 d3 d4 P R K ∧ own_g7 s A L B c2 c3 c4 d2 d3 d4 P R K ∧ own_g8 s A L B c2 c3 c4 d2 d3 d4 P R K ∧ own_g9 s A L B c2 c3 c4 d2 d3 d4 P R K ∧ getA (A 0) 16 = 92 ∧ getA (A 0) 17 = 49 ∧ getA (A 1) 1 = 8 ∧ getA (A 1) 5 = 36 ∧ getA (A 1) 6 = 43 ∧ getA (A 1) 7 = 49 ∧ getA (A 13) 0 = 5 ∧ getA (A 15) 0 = 5 ∧ getA (A 16) 0 = 1 ∧ getA (A 17) 0 = 3 ∧ getA (A 2) 1 = 18 ∧ getA (A 2) 5 = 42 ∧ getA (A 2) 6 = 48 ∧ getA (A 2) 7 = 55 ∧ getA (A 3) 0 = (16 + P) ∧ getA (A 4) 0 = 0 ∧ getL (B 0) 0 = 1257393 ∧ s 21 = K ∧ s 23 = 8 ∧ s 28 = 1 ∧ s 35 = 1 ∧ s 37 = 0 ∧ s 41 = 1 ∧ s 42 = 2 ∧ s 44 = 0 ∧ s 45 = 0 ∧ s 54 = 0
def own_s35LL (s : Nat → Int32) (A : Nat → List Int32) (L : Nat → Int64) (B : Nat → List Int64) (c2 c3 c4 d2 d3 d4 P R K : Int32) : Prop := LN A ∧ LNB B ∧ own_g5 s A L B c2 c3 c4 d2 d3 d4 P R K ∧ own_g6 s A L B c2 c3 c4 d2 d3 d4 P R K ∧ own_g7 s A L B c2 c3 c4 d2 d3 d4 P R K ∧ own_g8 s A L B c2 c3 c4 d2 d3 d4 P R K ∧ getA (A 1) 5 = 36 ∧ getA (A 1) 6 = 43 ∧ getA (A 1) 7 = 49 ∧ getA (A 13) 0 = 5 ∧ getA (A 15) 0 = 5 ∧ getA (A 2) 5 = 42 ∧ getA (A 2) 6 = 48 ∧ getA (A 2) 7 = 55 ∧ getA (A 3) 0 = 129 ∧ getA (A 3) 1 = (P &&& 255) ∧ getA (A 3) 2 = 129 ∧ getA (A 3) 3 = (R &&& 255) ∧ getA (A 4) 0 = 0 ∧ getA (A 4) 1 = 2 ∧ getL (B 0) 0 = 1257393 ∧ getL (B 0) 1 = 1257394 ∧ s 21 = K ∧ s 23 = 8 ∧ s 28 = 2 ∧ s 35 = 2 ∧ s 37 = 0 ∧ s 40 = 7 ∧ s 41 = 4 ∧ s 42 = 2 ∧ s 44 = 0 ∧ s 45 = 0 ∧ s 54 = 0
def own_s35LS (s : Nat → Int32) (A : Nat → List Int32) (L : Nat → Int64) (B : Nat → List Int64) (c2 c3 c4 d2 d3 d4 P R K : Int32) : Prop := LN A ∧ LNB B ∧ own_g5 s A L B c2 c3 c4 d2 d3 d4 P R K ∧ own_g6 s A L B c2 c3 c4 d2 d3 d4 P R K ∧ own_g7 s A L B c2 c3 c4 d2 d3 d4 P R K ∧ own_g8 s A L B c2 c3 c4 d2 d3 d4 P R K ∧ getA (A 1) 5 = 36 ∧ getA (A 1) 6 = 43 ∧ getA (A 1) 7 = 49 ∧ getA (A 13) 0 = 5 ∧ getA (A 15) 0 = 5 ∧ getA (A 2) 5 = 42 ∧ getA (A 2) 6 = 48 ∧ getA (A 2) 7 = 55 ∧ getA (A 3) 0 = 129 ∧ getA (A 3) 1 = (P &&& 255) ∧ getA (A 3) 2 = (16 + R) ∧ getA (A 4) 0 = 0 ∧ getA (A 4) 1 = 2 ∧ getL (B 0) 0 = 1257393 ∧ getL (B 0) 1 = 1257394 ∧ s 21 = K ∧ s 23 = 8 ∧ s 28 = 2 ∧ s 35 = 2 ∧ s 37 = 0 ∧ s 40 = 7 ∧ s 41 = 3 ∧ s 42 = 2 ∧ s 44 = 0 ∧ s 45 = 0 ∧ s 54 = 0
def own_s35SL (s : Nat → Int32) (A : Nat → List Int32) (L : Nat → Int64) (B : Nat → List Int64) (c2 c3 c4 d2 d3 d4 P R K : Int32) : Prop := LN A ∧ LNB B ∧ own_g5 s A L B c2 c3 c4 d2 d3 d4 P R K ∧ own_g6 s A L B c2 c3 c4 d2 d3 d4 P R K ∧ own_g7 s A L B c2 c3 c4 d2 d3 d4 P R K ∧ own_g8 s A L B c2 c3 c4 d2 d3 d4 P R K ∧ getA (A 1) 5 = 36 ∧ getA (A 1) 6 = 43 ∧ getA (A 1) 7 = 49 ∧ getA (A 13) 0 = 5 ∧ getA (A 15) 0 = 5 ∧ getA (A 2) 5 = 42 ∧ getA (A 2) 6 = 48 ∧ getA (A 2) 7 = 55 ∧ getA (A 3) 0 = (16 + P) ∧ getA (A 3) 1 = 129 ∧ getA (A 3) 2 = (R &&& 255) ∧ getA (A 4) 0 = 0 ∧ getA (A 4) 1 = 1 ∧ getL (B 0) 0 = 1257393 ∧ getL (B 0) 1 = 1257394 ∧ s 21 = K ∧ s 23 = 8 ∧ s 28 = 2 ∧ s 35 = 2 ∧ s 37 = 0 ∧ s 40 = 7 ∧ s 41 = 3 ∧ s 42 = 2 ∧ s 44 = 0 ∧ s 45 = 0 ∧ s 54 = 0
def own_s35SS (s : Nat → Int32) (A : Nat → List Int32) (L : Nat → Int64) (B : Nat → List Int64) (c2 c3 c4 d2 d3 d4 P R K : Int32) : Prop := LN A ∧ LNB B ∧ own_g5 s A L B c2 c3 c4 d2 d3 d4 P R K ∧ own_g6 s A L B c2 c3 c4 d2 d3 d4 P R K ∧ own_g7 s A L B c2 c3 c4 d2 d3 d4 P R K ∧ own_g8 s A L B c2 c3 c4 d2 d3 d4 P R K ∧ getA (A 1) 5 = 36 ∧ getA (A 1) 6 = 43 ∧ getA (A 1) 7 = 49 ∧ getA (A 13) 0 = 5 ∧ getA (A 15) 0 = 5 ∧ getA (A 2) 5 = 42 ∧ getA (A 2) 6 = 48 ∧ getA (A 2) 7 = 55 ∧ getA (A 3) 0 = (16 + P) ∧ getA (A 3) 1 = (16 + R) ∧ getA (A 4) 0 = 0 ∧ getA (A 4) 1 = 1 ∧ getL (B 0) 0 = 1257393 ∧ getL (B 0) 1 = 1257394 ∧ s 21 = K ∧ s 23 = 8 ∧ s 28 = 2 ∧ s 35 = 2 ∧ s 37 = 0 ∧ s 40 = 7 ∧ s 41 = 2 ∧ s 42 = 2 ∧ s 44 = 0 ∧ s 45 = 0 ∧ s 54 = 0
def own_s37LL (s : Nat → Int32) (A : Nat → List Int32) (L : Nat → Int64) (B : Nat → List Int64) (c2 c3 c4 d2 d3 d4 P R K : Int32) : Prop := LN A ∧ LNB B ∧ own_g5 s A L B c2 c3 c4 d2 d3 d4 P R K ∧ own_g6 s A L B c2 c3 c4 d2 d3 d4 P R K ∧ own_g7 s A L B c2 c3 c4 d2 d3 d4 P R K ∧ getA (A 1) 5 = 36 ∧ getA (A 1) 6 = 43 ∧ getA (A 1) 7 = 49 ∧ getA (A 2) 5 = 42 ∧ getA (A 2) 6 = 48 ∧ getA (A 2) 7 = 55 ∧ getA (A 3) 0 = 129 ∧ getA (A 3) 1 = (P &&& 255) ∧ getA (A 3) 2 = 129 ∧ getA (A 3) 3 = (R &&& 255) ∧ getA (A 4) 0 = 0 ∧ getA (A 4) 1 = 2 ∧ getL (B 0) 0 = 1257393 ∧ getL (B 0) 1 = 1257394 ∧ s 21 = K ∧ s 23 = 8 ∧ s 28 = 2 ∧ s 33 = 0 ∧ s 34 = (-1) ∧ s 35 = 5 ∧ s 36 = 8 ∧ s 37 = 0 ∧ s 40 = 7 ∧ s 41 = 4 ∧ s 42 = 2 ∧ s 44 = 0 ∧ s 45 = 0 ∧ s 54 = 0
def own_s37LS (s : Nat → Int32) (A : Nat → List Int32) (L : Nat → Int64) (B : Nat → List Int64) (c2 c3 c4 d2 d3 d4 P R K : Int32) : Prop := LN A ∧ LNB B ∧ own_g5 s A L B c2 c3 c4 d2 d3 d4 P R K ∧ own_g6 s A L B c2 c3 c4 d2 d3 d4 P R K ∧ own_g7 s A L B c2 c3 c4 d2 d3 d4 P R K ∧ getA (A 1) 5 = 36 ∧ getA (A 1) 6 = 43 ∧ getA (A 1) 7 = 49 ∧ getA (A 2) 5 = 42 ∧ getA (A 2) 6 = 48 ∧ getA (A 2) 7 = 55 ∧ getA (A 3) 0 = 129 ∧ getA (A 3) 1 = (P &&& 255) ∧ getA (A 3) 2 = (16 + R) ∧ getA (A 4) 0 = 0 ∧ getA (A 4) 1 = 2 ∧ getL (B 0) 0 = 1257393 ∧ getL (B 0) 1 = 1257394 ∧ s 21 = K ∧ s 23 = 8 ∧ s 28 = 2 ∧ s 33 = 0 ∧ s 34 = (-1) ∧ s 35 = 5 ∧ s 36 = 8 ∧ s 37 = 0 ∧ s 40 = 7 ∧ s 41 = 3 ∧ s 42 = 2 ∧ s 44 = 0 ∧ s 45 = 0 ∧ s 54 = 0
def own_s37SL (s : Nat → Int32) (A : Nat → List Int32) (L : Nat → Int64) (B : Nat → List Int64) (c2 c3 c4 d2 d3 d4 P R K : Int32) : Prop := LN A ∧ LNB B ∧ own_g5 s A L B c2 c3 c4 d2 d3 d4 P R K ∧ own_g6 s A L B c2 c3 c4 d2 d3 d4 P R K ∧ own_g7 s A L B c2 c3 c4 d2 d3 d4 P R K ∧ getA (A 1) 5 = 36 ∧ getA (A 1) 6 = 43 ∧ getA (A 1) 7 = 49 ∧ getA (A 2) 5 = 42 ∧ getA (A 2) 6 = 48 ∧ getA (A 2) 7 = 55 ∧ getA (A 3) 0 = (16 + P) ∧ getA (A 3) 1 = 129 ∧ getA (A 3) 2 = (R &&& 255) ∧ getA (A 4) 0 = 0 ∧ getA (A 4) 1 = 1 ∧ getL (B 0) 0 = 1257393 ∧ getL (B 0) 1 = 1257394 ∧ s 21 = K ∧ s 23 = 8 ∧ s 28 = 2 ∧ s 33 = 0 ∧ s 34 = (-1) ∧ s 35 = 5 ∧ s 36 = 8 ∧ s 37 = 0 ∧ s 40 = 7 ∧ s 41 = 3 ∧ s 42 = 2 ∧ s 44 = 0 ∧ s 45 = 0 ∧ s 54 = 0
def own_s37SS (s : Nat → Int32) (A : Nat → List Int32) (L : Nat → Int64) (B : Nat → List Int64) (c2 c3 c4 d2 d3 d4 P R K : Int32) : Prop := LN A ∧ LNB B ∧ own_g5 s A L B c2 c3 c4 d2 d3 d4 P R K ∧ own_g6 s A L B c2 c3 c4 d2 d3 d4 P R K ∧ own_g7 s A L B c2 c3 c4 d2 d3 d4 P R K ∧ getA (A 1) 5 = 36 ∧ getA (A 1) 6 = 43 ∧ getA (A 1) 7 = 49 ∧ getA (A 2) 5 = 42 ∧ getA (A 2) 6 = 48 ∧ getA (A 2) 7 = 55 ∧ getA (A 3) 0 = (16 + P) ∧ getA (A 3) 1 = (16 + R) ∧ getA (A 4) 0 = 0 ∧ getA (A 4) 1 = 1 ∧ getL (B 0) 0 = 1257393 ∧ getL (B 0) 1 = 1257394 ∧ s 21 = K ∧ s 23 = 8 ∧ s 28 = 2 ∧ s 33 = 0 ∧ s 34 = (-1) ∧ s 35 = 5 ∧ s 36 = 8 ∧ s 37 = 0 ∧ s 40 = 7 ∧ s 41 = 2 ∧ s 42 = 2 ∧ s 44 = 0 ∧ s 45 = 0 ∧ s 54 = 0
def own_s39LL (s : Nat → Int32) (A : Nat → List Int32) (L : Nat → Int64) (B : Nat → List Int64) (c2 c3 c4 d2 d3 d4 P R K : Int32) : Prop := LN A ∧ LNB B ∧ own_g6 s A L B c2 c3 c4 d2 d3 d4 P R K ∧ own_g7 s A L B c2 c3 c4 d2 d3 d4 P R K ∧ getA (A 1) 6 = 43 ∧ getA (A 1) 7 = 49 ∧ getA (A 2) 6 = 48 ∧ getA (A 2) 7 = 55 ∧ getA (A 3) 0 = 129 ∧ getA (A 3) 1 = (P &&& 255) ∧ getA (A 3) 2 = 129 ∧ getA (A 3) 3 = (R &&& 255) ∧ getA (A 3) 4 = 98 ∧ getA (A 4) 0 = 0 ∧ getA (A 4) 1 = 2 ∧ getL (B 0) 0 = 1257393 ∧ getL (B 0) 1 = 1257394 ∧ s 21 = K ∧ s 23 = 8 ∧ s 28 = 2 ∧ s 33 = 0 ∧ s 34 = (-1) ∧ s 35 = 6 ∧ s 36 = 8 ∧ s 37 = 0 ∧ s 40 = 8 ∧ s 41 = 5 ∧ s 42 = 2 ∧ s 44 = 0 ∧ s 45 = 0 ∧ s 54 = 0
def own_s39LS (s : Nat → Int32) (A : Nat → List Int32) (L : Nat → Int64) (B : Nat → List Int64) (c2 c3 c4 d2 d3 d4 P R K : Int32) : Prop := LN A ∧ LNB B ∧ own_g6 s A L B c2 c3 c4 d2 d3 d4 P R K ∧ own_g7 s A L B c2 c3 c4 d2 d3 d4 P R K ∧ getA (A 1) 6 = 43 ∧ getA (A 1) 7 = 49 ∧ getA (A 2) 6 = 48 ∧ getA (A 2) 7 = 55 ∧ getA (A 3) 0 = 129 ∧ getA (A 3) 1 = (P &&& 255) ∧ getA (A 3) 2 = (16 + R) ∧ getA (A 3) 3 = 98 ∧ getA (A 4) 0 = 0 ∧ getA (A 4) 1 = 2 ∧ getL (B 0) 0 = 1257393 ∧ getL (B 0) 1 = 1257394 ∧ s 21 = K ∧ s 23 = 8 ∧ s 28 = 2 ∧ s 33 = 0 ∧ s 34 = (-1) ∧ s 35 = 6 ∧ s 36 = 8 ∧ s 37 = 0 ∧ s 40 = 8 ∧ s 41 = 4 ∧ s 42 = 2 ∧ s 44 = 0 ∧ s 45 = 0 ∧ s 54 = 0
def own_s39SL (s : Nat → Int32) (A : Nat → List Int32) (L : Nat → Int64) (B : Nat → List Int64) (c2 c3 c4 d2 d3 d4 P R K : Int32) : Prop := LN A ∧ LNB B ∧ own_g6 s A L B c2 c3 c4 d2 d3 d4 P R K ∧ own_g7 s A L B c2 c3 c4 d2 d3 d4 P R K ∧ getA (A 1) 6 = 43 ∧ getA (A 1) 7 = 49 ∧ getA (A 2) 6 = 48 ∧ getA (A 2) 7 = 55 ∧ getA (A 3) 0 = (16 + P) ∧ getA (A 3) 1 = 129 ∧ getA (A 3) 2 = (R &&& 255) ∧ getA (A 3) 3 = 97 ∧ getA (A 4) 0 = 0 ∧ getA (A 4) 1 = 1 ∧ getL (B 0) 0 = 1257393 ∧ getL (B 0) 1 = 1257394 ∧ s 21 = K ∧ s 23 = 8 ∧ s 28 = 2 ∧ s 33 = 0 ∧ s 34 = (-1) ∧ s 35 = 6 ∧ s 36 = 8 ∧ s 37 = 0 ∧ s 40 = 8 ∧ s 41 = 4 ∧ s 42 = 2 ∧ s 44 = 0 ∧ s 45 = 0 ∧ s 54 = 0
def own_s39SS (s : Nat → Int32) (A : Nat → List Int32) (L : Nat → Int64) (B : Nat → List Int64) (c2 c3 c4 d2 d3 d4 P R K : Int32) : Prop := LN A ∧ LNB B ∧ own_g6 s A L B c2 c3 c4 d2 d3 d4 P R K ∧ own_g7 s A L B c2 c3 c4 d2 d3 d4 P R K ∧ getA (A 1) 6 = 43 ∧ getA (A 1) 7 = 49 ∧ getA (A 2) 6 = 48 ∧ getA (A 2) 7 = 55 ∧ getA (A 3) 0 = (16 + P) ∧ getA (A 3) 1 = (16 + R) ∧ getA (A 3) 2 = 97 ∧ getA (A 4) 0 = 0 ∧ getA (A 4) 1 = 1 ∧ getL (B 0) 0 = 1257393 ∧ getL (B 0) 1 = 1257394 ∧ s 21 = K ∧ s 23 = 8 ∧ s 28 = 2 ∧ s 33 = 0 ∧ s 34 = (-1) ∧ s 35 = 6 ∧ s 36 = 8 ∧ s 37 = 0 ∧ s 40 = 8 ∧ s 41 = 3 ∧ s 42 = 2 ∧ s 44 = 0 ∧ s 45 = 0 ∧ s 54 = 0
def own_s41LL (s : Nat → Int32) (A : Nat → List Int32) (L : Nat → Int64) (B : Nat → List Int64) (c2 c3 c4 d2 d3 d4 P R K : Int32) : Prop := LN A ∧ LNB B ∧ own_g7 s A L B c2 c3 c4 d2 d3 d4 P R K ∧ own_g10 s A L B c2 c3 c4 d2 d3 d4 P R K ∧ getA (A 1) 7 = 49 ∧ getA (A 2) 7 = 55 ∧ getA (A 23) 0 = 6 ∧ getA (A 3) 0 = 129 ∧ getA (A 3) 1 = (P &&& 255) ∧ getA (A 3) 2 = 129 ∧ getA (A 3) 3 = (R &&& 255) ∧ getA (A 3) 4 = 98 ∧ getA (A 3) 5 = 133 ∧ getA (A 4) 0 = 0 ∧ getA (A 4) 1 = 2 ∧ getL (B 0) 0 = 1257393 ∧ getL (B 0) 1 = 1257394 ∧ s 21 = K ∧ s 23 = 8 ∧ s 28 = 2 ∧ s 33 = 0 ∧ s 34 = (-1) ∧ s 35 = 7 ∧ s 36 = 8 ∧ s 37 = 0 ∧ s 40 = 9 ∧ s 41 = 7 ∧ s 42 = 2 ∧ s 44 = 0 ∧ s 45 = 0
def own_s41LS (s : Nat → Int32) (A : Nat → List Int32) (L : Nat → Int64) (B : Nat → List Int64) (c2 c3 c4 d2 d3 d4 P R K : Int32) : Prop := LN A ∧ LNB B ∧ own_g7 s A L B c2 c3 c4 d2 d3 d4 P R K ∧ own_g10 s A L B c2 c3 c4 d2 d3 d4 P R K ∧ getA (A 1) 7 = 49 ∧ getA (A 2) 7 = 55 ∧ getA (A 23) 0 = 5 ∧ getA (A 3) 0 = 129 ∧ getA (A 3) 1 = (P &&& 255) ∧ getA (A 3) 2 = (16 + R) ∧ getA (A 3) 3 = 98 ∧ getA (A 3) 4 = 133 ∧ getA (A 4) 0 = 0 ∧ getA (A 4) 1 = 2 ∧ getL (B 0) 0 = 1257393 ∧ getL (B 0) 1 = 1257394 ∧ s 21 = K ∧ s 23 = 8 ∧ s 28 = 2 ∧ s 33 = 0 ∧ s 34 = (-1) ∧ s 35 = 7 ∧ s 36 = 8 ∧ s 37 = 0 ∧ s 40 = 9 ∧ s 41 = 6 ∧ s 42 = 2 ∧ s 44 = 0 ∧ s 45 = 0
def own_s41SL (s : Nat → Int32) (A : Nat → List Int32) (L : Nat → Int64) (B : Nat → List Int64) (c2 c3 c4 d2 d3 d4 P R K : Int32) : Prop := LN A ∧ LNB B ∧ own_g7 s A L B c2 c3 c4 d2 d3 d4 P R K ∧ own_g10 s A L B c2 c3 c4 d2 d3 d4 P R K ∧ getA (A 1) 7 = 49 ∧ getA (A 2) 7 = 55 ∧ getA (A 23) 0 = 5 ∧ getA (A 3) 0 = (16 + P) ∧ getA (A 3) 1 = 129 ∧ getA (A 3) 2 = (R &&& 255) ∧ getA (A 3) 3 = 97 ∧ getA (A 3) 4 = 133 ∧ getA (A 4) 0 = 0 ∧ getA (A 4) 1 = 1 ∧ getL (B 0) 0 = 1257393 ∧ getL (B 0) 1 = 1257394 ∧ s 21 = K ∧ s 23 = 8 ∧ s 28 = 2 ∧ s 33 = 0 ∧ s 34 = (-1) ∧ s 35 = 7 ∧ s 36 = 8 ∧ s 37 = 0 ∧ s 40 = 9 ∧ s 41 = 6 ∧ s 42 = 2 ∧ s 44 = 0 ∧ s 45 = 0
def own_s41SS (s : Nat → Int32) (A : Nat → List Int32) (L : Nat → Int64) (B : Nat → List Int64) (c2 c3 c4 d2 d3 d4 P R K : Int32) : Prop := LN A ∧ LNB B ∧ own_g7 s A L B c2 c3 c4 d2 d3 d4 P R K ∧ own_g10 s A L B c2 c3 c4 d2 d3 d4 P R K ∧ getA (A 1) 7 = 49 ∧ getA (A 2) 7 = 55 ∧ getA (A 23) 0 = 4 ∧ getA (A 3) 0 = (16 + P) ∧ getA (A 3) 1 = (16 + R) ∧ getA (A 3) 2 = 97 ∧ getA (A 3) 3 = 133 ∧ getA (A 4) 0 = 0 ∧ getA (A 4) 1 = 1 ∧ getL (B 0) 0 = 1257393 ∧ getL (B 0) 1 = 1257394 ∧ s 21 = K ∧ s 23 = 8 ∧ s 28 = 2 ∧ s 33 = 0 ∧ s 34 = (-1) ∧ s 35 = 7 ∧ s 36 = 8 ∧ s 37 = 0 ∧ s 40 = 9 ∧ s 41 = 5 ∧ s 42 = 2 ∧ s 44 = 0 ∧ s 45 = 0
def own_s43LL (s : Nat → Int32) (A : Nat → List Int32) (L : Nat → Int64) (B : Nat → List Int64) (c2 c3 c4 d2 d3 d4 P R K : Int32) : Prop := LN A ∧ LNB B ∧ own_g10 s A L B c2 c3 c4 d2 d3 d4 P R K ∧ getA (A 23) 0 = 6 ∧ getA (A 3) 0 = 129 ∧ getA (A 3) 1 = (P &&& 255) ∧ getA (A 3) 2 = 129 ∧ getA (A 3) 3 = (R &&& 255) ∧ getA (A 3) 4 = 98 ∧ getA (A 3) 5 = 133 ∧ getA (A 3) 7 = 1 ∧ getA (A 4) 0 = 0 ∧ getA (A 4) 1 = 2 ∧ getA (A 4) 2 = 7 ∧ getL (B 0) 0 = 1257393 ∧ getL (B 0) 1 = 1257394 ∧ getL (B 0) 2 = 69 ∧ s 23 = 8 ∧ s 28 = 3 ∧ s 33 = 0 ∧ s 34 = (-1) ∧ s 35 = 8 ∧ s 36 = 8 ∧ s 37 = 0 ∧ s 41 = 8 ∧ s 42 = 2 ∧ s 44 = 0 ∧ s 45 = 0
def own_s43LS (s : Nat → Int32) (A : Nat → List Int32) (L : Nat → Int64) (B : Nat → List Int64) (c2 c3 c4 d2 d3 d4 P R K : Int32) : Prop := LN A ∧ LNB B ∧ own_g10 s A L B c2 c3 c4 d2 d3 d4 P R K ∧ getA (A 23) 0 = 5 ∧ getA (A 3) 0 = 129 ∧ getA (A 3) 1 = (P &&& 255) ∧ getA (A 3) 2 = (16 + R) ∧ getA (A 3) 3 = 98 ∧ getA (A 3) 4 = 133 ∧ getA (A 3) 6 = 1 ∧ getA (A 4) 0 = 0 ∧ getA (A 4) 1 = 2 ∧ getA (A 4) 2 = 6 ∧ getL (B 0) 0 = 1257393 ∧ getL (B 0) 1 = 1257394 ∧ getL (B 0) 2 = 69 ∧ s 23 = 8 ∧ s 28 = 3 ∧ s 33 = 0 ∧ s 34 = (-1) ∧ s 35 = 8 ∧ s 36 = 8 ∧ s 37 = 0 ∧ s 41 = 7 ∧ s 42 = 2 ∧ s 44 = 0 ∧ s 45 = 0
def own_s43SL (s : Nat → Int32) (A : Nat → List Int32) (L : Nat → Int64) (B : Nat → List Int64) (c2 c3 c4 d2 d3 d4 P R K : Int32) : Prop := LN A ∧ LNB B ∧ own_g10 s A L B c2 c3 c4 d2 d3 d4 P R K ∧ getA (A 23) 0 = 5 ∧ getA (A 3) 0 = (16 + P) ∧ getA (A 3) 1 = 129 ∧ getA (A 3) 2 = (R &&& 255) ∧ getA (A 3) 3 = 97 ∧ getA (A 3) 4 = 133 ∧ getA (A 3) 6 = 1 ∧ getA (A 4) 0 = 0 ∧ getA (A 4) 1 = 1 ∧ getA (A 4) 2 = 6 ∧ getL (B 0) 0 = 1257393 ∧ getL (B 0) 1 = 1257394 ∧ getL (B 0) 2 = 69 ∧ s 23 = 8 ∧ s 28 = 3 ∧ s 33 = 0 ∧ s 34 = (-1) ∧ s 35 = 8 ∧ s 36 = 8 ∧ s 37 = 0 ∧ s 41 = 7 ∧ s 42 = 2 ∧ s 44 = 0 ∧ s 45 = 0
def own_s43SS (s : Nat → Int32) (A : Nat → List Int32) (L : Nat → Int64) (B : Nat → List Int64) (c2 c3 c4 d2 d3 d4 P R K : Int32) : Prop := LN A ∧ LNB B ∧ own_g10 s A L B c2 c3 c4 d2 d3 d4 P R K ∧ getA (A 23) 0 = 4 ∧ getA (A 3) 0 = (16 + P) ∧ getA (A 3) 1 = (16 + R) ∧ getA (A 3) 2 = 97 ∧ getA (A 3) 3 = 133 ∧ getA (A 3) 5 = 1 ∧ getA (A 4) 0 = 0 ∧ getA (A 4) 1 = 1 ∧ getA (A 4) 2 = 5 ∧ getL (B 0) 0 = 1257393 ∧ getL (B 0) 1 = 1257394 ∧ getL (B 0) 2 = 69 ∧ s 23 = 8 ∧ s 28 = 3 ∧ s 33 = 0 ∧ s 34 = (-1) ∧ s 35 = 8 ∧ s 36 = 8 ∧ s 37 = 0 ∧ s 41 = 6 ∧ s 42 = 2 ∧ s 44 = 0 ∧ s 45 = 0
def own_s45LL (s : Nat → Int32) (A : Nat → List Int32) (L : Nat → Int64) (B : Nat → List Int64) (c2 c3 c4 d2 d3 d4 P R K : Int32) : Prop := LN A ∧ LNB B ∧ own_g10 s A L B c2 c3 c4 d2 d3 d4 P R K ∧ getA (A 23) 0 = 6 ∧ getA (A 3) 0 = 129 ∧ getA (A 3) 1 = (P &&& 255) ∧ getA (A 3) 2 = 129 ∧ getA (A 3) 3 = (R &&& 255) ∧ getA (A 3) 4 = 98 ∧ getA (A 3) 5 = 133 ∧ getA (A 3) 7 = 1 ∧ getA (A 4) 0 = 0 ∧ getA (A 4) 1 = 2 ∧ getA (A 4) 2 = 7 ∧ getL (B 0) 0 = 1257393 ∧ getL (B 0) 1 = 1257394 ∧ getL (B 0) 2 = 69 ∧ s 28 = 3 ∧ s 41 = 8 ∧ s 42 = 2 ∧ s 44 = 0 ∧ s 45 = 1
def own_s45LS (s : Nat → Int32) (A : Nat → List Int32) (L : Nat → Int64) (B : Nat → List Int64) (c2 c3 c4 d2 d3 d4 P R K : Int32) : Prop := LN A ∧ LNB B ∧ own_g10 s A L B c2 c3 c4 d2 d3 d4 P R K ∧ getA (A 23) 0 = 5 ∧ getA (A 3) 0 = 129 ∧ getA (A 3) 1 = (P &&& 255) ∧ getA (A 3) 2 = (16 + R) ∧ getA (A 3) 3 = 98 ∧ getA (A 3) 4 = 133 ∧ getA (A 3) 6 = 1 ∧ getA (A 4) 0 = 0 ∧ getA (A 4) 1 = 2 ∧ getA (A 4) 2 = 6 ∧ getL (B 0) 0 = 1257393 ∧ getL (B 0) 1 = 1257394 ∧ getL (B 0) 2 = 69 ∧ s 28 = 3 ∧ s 41 = 7 ∧ s 42 = 2 ∧ s 44 = 0 ∧ s 45 = 1
def own_s45SL (s : Nat → Int32) (A : Nat → List Int32) (L : Nat → Int64) (B : Nat → List Int64) (c2 c3 c4 d2 d3 d4 P R K : Int32) : Prop := LN A ∧ LNB B ∧ own_g10 s A L B c2 c3 c4 d2 d3 d4 P R K ∧ getA (A 23) 0 = 5 ∧ getA (A 3) 0 = (16 + P) ∧ getA (A 3) 1 = 129 ∧ getA (A 3) 2 = (R &&& 255) ∧ getA (A 3) 3 = 97 ∧ getA (A 3) 4 = 133 ∧ getA (A 3) 6 = 1 ∧ getA (A 4) 0 = 0 ∧ getA (A 4) 1 = 1 ∧ getA (A 4) 2 = 6 ∧ getL (B 0) 0 = 1257393 ∧ getL (B 0) 1 = 1257394 ∧ getL (B 0) 2 = 69 ∧ s 28 = 3 ∧ s 41 = 7 ∧ s 42 = 2 ∧ s 44 = 0 ∧ s 45 = 1
def own_s45SS (s : Nat → Int32) (A : Nat → List Int32) (L : Nat → Int64) (B : Nat → List Int64) (c2 c3 c4 d2 d3 d4 P R K : Int32) : Prop := LN A ∧ LNB B ∧ own_g10 s A L B c2 c3 c4 d2 d3 d4 P R K ∧ getA (A 23) 0 = 4 ∧ getA (A 3) 0 = (16 + P) ∧ getA (A 3) 1 = (16 + R) ∧ getA (A 3) 2 = 97 ∧ getA (A 3) 3 = 133 ∧ getA (A 3) 5 = 1 ∧ getA (A 4) 0 = 0 ∧ getA (A 4) 1 = 1 ∧ getA (A 4) 2 = 5 ∧ getL (B 0) 0 = 1257393 ∧ getL (B 0) 1 = 1257394 ∧ getL (B 0) 2 = 69 ∧ s 28 = 3 ∧ s 41 = 6 ∧ s 42 = 2 ∧ s 44 = 0 ∧ s 45 = 1
def own_s47LL (s : Nat → Int32) (A : Nat → List Int32) (L : Nat → Int64) (B : Nat → List Int64) (c2 c3 c4 d2 d3 d4 P R K : Int32) : Prop := LN A ∧ LNB B ∧ getA (A 3) 0 = 129 ∧ getA (A 3) 1 = (P &&& 255) ∧ getA (A 3) 2 = 129 ∧ getA (A 3) 3 = (R &&& 255) ∧ getA (A 3) 4 = 98 ∧ getA (A 3) 5 = 133 ∧ getA (A 3) 6 = 7 ∧ getA (A 3) 7 = 1 ∧ getA (A 4) 0 = 0 ∧ getA (A 4) 1 = 2 ∧ getA (A 4) 2 = 7 ∧ getL (B 0) 0 = 1257393 ∧ getL (B 0) 1 = 1257394 ∧ getL (B 0) 2 = 69 ∧ s 28 = 3 ∧ s 41 = 8 ∧ s 42 = 2 ∧ s 44 = 0
def own_s47LS (s : Nat → Int32) (A : Nat → List Int32) (L : Nat → Int64) (B : Nat → List Int64) (c2 c3 c4 d2 d3 d4 P R K : Int32) : Prop := LN A ∧ LNB B ∧ getA (A 3) 0 = 129 ∧ getA (A 3) 1 = (P &&& 255) ∧ getA (A 3) 2 = (16 + R) ∧ getA (A 3) 3 = 98 ∧ getA (A 3) 4 = 133 ∧ getA (A 3) 5 = 6 ∧ getA (A 3) 6 = 1 ∧ getA (A 4) 0 = 0 ∧ getA (A 4) 1 = 2 ∧ getA (A 4) 2 = 6 ∧ getL (B 0) 0 = 1257393 ∧ getL (B 0) 1 = 1257394 ∧ getL (B 0) 2 = 69 ∧ s 28 = 3 ∧ s 41 = 7 ∧ s 42 = 2 ∧ s 44 = 0
def own_s47SL (s : Nat → Int32) (A : Nat → List Int32) (L : Nat → Int64) (B : Nat → List Int64) (c2 c3 c4 d2 d3 d4 P R K : Int32) : Prop := LN A ∧ LNB B ∧ getA (A 3) 0 = (16 + P) ∧ getA (A 3) 1 = 129 ∧ getA (A 3) 2 = (R &&& 255) ∧ getA (A 3) 3 = 97 ∧ getA (A 3) 4 = 133 ∧ getA (A 3) 5 = 6 ∧ getA (A 3) 6 = 1 ∧ getA (A 4) 0 = 0 ∧ getA (A 4) 1 = 1 ∧ getA (A 4) 2 = 6 ∧ getL (B 0) 0 = 1257393 ∧ getL (B 0) 1 = 1257394 ∧ getL (B 0) 2 = 69 ∧ s 28 = 3 ∧ s 41 = 7 ∧ s 42 = 2 ∧ s 44 = 0
def own_s47SS (s : Nat → Int32) (A : Nat → List Int32) (L : Nat → Int64) (B : Nat → List Int64) (c2 c3 c4 d2 d3 d4 P R K : Int32) : Prop := LN A ∧ LNB B ∧ getA (A 3) 0 = (16 + P) ∧ getA (A 3) 1 = (16 + R) ∧ getA (A 3) 2 = 97 ∧ getA (A 3) 3 = 133 ∧ getA (A 3) 4 = 5 ∧ getA (A 3) 5 = 1 ∧ getA (A 4) 0 = 0 ∧ getA (A 4) 1 = 1 ∧ getA (A 4) 2 = 5 ∧ getL (B 0) 0 = 1257393 ∧ getL (B 0) 1 = 1257394 ∧ getL (B 0) 2 = 69 ∧ s 28 = 3 ∧ s 41 = 6 ∧ s 42 = 2 ∧ s 44 = 0
def DG (c2 c3 c4 P : Int32) : Prop := c2 < 65 ∧ c2 < 97 ∧ ¬ 126 < c2 ∧ ¬ 126 < c3 ∧ ¬ 126 < c4 ∧ ¬ 57 < c2 ∧ ¬ 57 < c3 ∧ ¬ 57 < c4 ∧ ¬ P < 0 ∧ ¬ c2 < 32 ∧ ¬ c2 < 48 ∧ ¬ c2 = 0 ∧ ¬ c2 = 10 ∧ ¬ c2 = 32 ∧ ¬ c2 = 44 ∧ ¬ c2 = 58 ∧ ¬ c2 = 59 ∧ ¬ c2 = 95 ∧ ¬ c3 < 32 ∧ ¬ c3 < 48 ∧ ¬ c3 = 0 ∧ ¬ c3 = 10 ∧ ¬ c3 = 32 ∧ ¬ c3 = 44 ∧ ¬ c3 = 59 ∧ ¬ c4 < 32 ∧ ¬ c4 < 48 ∧ ¬ c4 = 0 ∧ ¬ c4 = 10 ∧ ¬ c4 = 32 ∧ ¬ c4 = 44 ∧ ¬ c4 = 59 ∧ (((c2 - 48) * 10 + (c3 - 48)) * 10 + (c4 - 48)) = P ∧ (c2.toUInt32 % 65536).toInt32 = c2 ∧ (c3.toUInt32 % 65536).toInt32 = c3 ∧ (c4.toUInt32 % 65536).toInt32 = c4 ∧ nar .char c2 = c2 ∧ nar .char c3 = c3 ∧ nar .char c4 = c4
def DK (K : Int32) : Prop := 0 < K ∧ 1 < K ∧ 2 < K ∧ 3 < K ∧ 4 < K ∧ 5 < K ∧ 6 < K ∧ 7 < K
def CS (P : Int32) : Prop := ¬ 15 < P ∧ (16 + P) &&& 255 = 16 + P ∧ ¬ P < 0 ∧ ¬ 16 + P < 0 ∧ 3 < 16 + P ∧ ¬ 16 + P < 16 ∧ ¬ 111 < 16 + P ∧ (16 + P) / 16 = 1 ∧ (16 + P) % 16 = P ∧ 0 ≤ P.toInt ∧ P.toInt ≤ 255
def CL (P : Int32) : Prop := 15 < P ∧ (P &&& 255) &&& 255 = P &&& 255 ∧ ¬ P < 0 ∧ 0 ≤ (P &&& 255).toInt ∧ (P &&& 255).toInt ≤ 255
def WB (w : Int64) (c2 c3 c4 : Int32) : Prop := (w &&& 255).toInt32 = 77 ∧ (XT.ushrL w 8 &&& 255).toInt32 = 32 ∧ (XT.ushrL w 16 &&& 255).toInt32 = c2 ∧ (XT.ushrL w 24 &&& 255).toInt32 = c3 ∧ (XT.ushrL w 32 &&& 255).toInt32 = c4 ∧ (XT.ushrL w 40 &&& 255).toInt32 = 10 ∧ (XT.ushrL w 48 &&& 255).toInt32 = 0
theorem own_t0 : (((((((10 : Int32).toUInt32 % 65536).toInt32 = 10 ∧ (((32 : Int32).toUInt32 % 65536).toInt32 = 32 ∧ ((37 : Int32).toUInt32 % 65536).toInt32 = 37)) ∧ (((48 : Int32).toUInt32 % 65536).toInt32 = 48 ∧ (((49 : Int32).toUInt32 % 65536).toInt32 = 49 ∧ ((50 : Int32).toUInt32 % 65536).toInt32 = 50))) ∧ ((((53 : Int32).toUInt32 % 65536).toInt32 = 53 ∧ (((54 : Int32).toUInt32 % 65536).toInt32 = 54 ∧ ((55 : Int32).toUInt32 % 65536).toInt32 = 55)) ∧ (((58 : Int32).toUInt32 % 65536).toInt32 = 58 ∧ (((62 : Int32).toUInt32 % 65536).toInt32 = 62 ∧ ((65 : Int32).toUInt32 % 65536).toInt32 = 65)))) ∧ (((((67 : Int32).toUInt32 % 65536).toInt32 = 67 ∧ (((68 : Int32).toUInt32 % 65536).toInt32 = 68 ∧ ((69 : Int32).toUInt32 % 65536).toInt32 = 69)) ∧ (((72 : Int32).toUInt32 % 65536).toInt32 = 72 ∧ (((74 : Int32).toUInt32 % 65536).toInt32 = 74 ∧ ((76 : Int32).toUInt32 % 65536).toInt32 = 76))) ∧ ((((77 : Int32).toUInt32 % 65536).toInt32 = 77 ∧ (((78 : Int32).toUInt32 % 65536).toInt32 = 78 ∧ ((79 : Int32).toUInt32 % 65536).toInt32 = 79)) ∧ (((80 : Int32).toUInt32 % 65536).toInt32 = 80 ∧ (((81 : Int32).toUInt32 % 65536).toInt32 = 81 ∧ ((82 : Int32).toUInt32 % 65536).toInt32 = 82))))) ∧ ((((((84 : Int32).toUInt32 % 65536).toInt32 = 84 ∧ (((85 : Int32).toUInt32 % 65536).toInt32 = 85 ∧ ((90 : Int32).toUInt32 % 65536).toInt32 = 90)) ∧ (((92 : Int32).toUInt32 % 65536).toInt32 = 92 ∧ (((95 : Int32).toUInt32 % 65536).toInt32 = 95 ∧ (0 : Int32) &&& 255 = 0))) ∧ (((0 : Int64) &&& 255 = 0 ∧ ((0 : Int64).toInt32 = 0 ∧ (1 : Int32) &&& 255 = 1)) ∧ ((10 : Int64) &&& 255 = 10 ∧ ((10 : Int64).toInt32 = 10 ∧ (11211463467098 : Int64) &&& 255 = 90)))) ∧ ((((11292011154762 : Int64) &&& 255 = 74 ∧ ((11335798833485 : Int64) &&& 255 = 77 ∧ (1140949 : Int64) &&& 127 = 85)) ∧ ((1189460 : Int64) &&& 127 = 84 ∧ ((1222352 : Int64) &&& 127 = 80 ∧ (1253953 : Int64) &&& 127 = 65))) ∧ (((1257393 : Int64) &&& 127 = 49 ∧ ((1257394 : Int64) &&& 127 = 50 ∧ (129 : Int32) &&& 255 = 129)) ∧ ((133 : Int32) &&& 255 = 133 ∧ ((138533948448 : Int64) &&& 255 = 32 ∧ (1414285344 : Int64) &&& 255 = 32)))))) := by decide +kernel
theorem own_t1 : ((((((171073356 : Int64) &&& 255 = 76 ∧ ((172302416 : Int64) &&& 255 = 80 ∧ (172835918 : Int64) &&& 255 = 78)) ∧ ((172970563 : Int64) &&& 255 = 67 ∧ ((2113860 : Int64) &&& 255 = 68 ∧ (21580 : Int64) &&& 255 = 76))) ∧ (((2324213976448781349 : Int64) &&& 255 = 37 ∧ ((2609 : Int64) &&& 255 = 49 ∧ (2610 : Int64) &&& 255 = 50)) ∧ ((2629 : Int64) &&& 255 = 69 ∧ ((2637 : Int64) &&& 255 = 77 ∧ (2639 : Int64) &&& 255 = 79)))) ∧ ((((2870134647577162 : Int64) &&& 255 = 74 ∧ ((2901964501372192 : Int64) &&& 255 = 32 ∧ (32 : Int64) &&& 255 = 32)) ∧ ((32 : Int64).toInt32 = 32 ∧ ((35464690802746 : Int64) &&& 255 = 58 ∧ (362057048122 : Int64) &&& 255 = 58))) ∧ (((37 : Int64).toInt32 = 37 ∧ ((43794779168 : Int64) &&& 255 = 32 ∧ (44109418573 : Int64) &&& 255 = 77)) ∧ ((44245995077 : Int64) &&& 255 = 69 ∧ ((44280464193 : Int64) &&& 255 = 65 ∧ (49 : Int32).toInt64 = 49))))) ∧ (((((49 : Int64).toInt32 = 49 ∧ ((5 : Int32) &&& 255 = 5 ∧ (50 : Int32).toInt64 = 50)) ∧ ((50 : Int64).toInt32 = 50 ∧ ((541148236 : Int64) &&& 255 = 76 ∧ (5524552 : Int64) &&& 255 = 72))) ∧ (((58 : Int64).toInt32 = 58 ∧ ((6 : Int32) &&& 255 = 6 ∧ (65 : Int32).toInt64 = 65)) ∧ ((65 : Int64).toInt32 = 65 ∧ ((66 : Int32).toInt64 = 66 ∧ (667996 : Int64) &&& 255 = 92)))) ∧ ((((668255 : Int64) &&& 255 = 95 ∧ ((67 : Int32).toInt64 = 67 ∧ (67 : Int64).toInt32 = 67)) ∧ ((673056 : Int64) &&& 255 = 32 ∧ ((675140 : Int64) &&& 255 = 68 ∧ (675666 : Int64) &&& 255 = 82))) ∧ (((68 : Int32).toInt64 = 68 ∧ ((68 : Int64).toInt32 = 68 ∧ (69 : Int32).toInt64 = 69)) ∧ ((69 : Int64) &&& 127 = 69 ∧ ((69 : Int64).toInt32 = 69 ∧ (7 : Int32) &&& 255 = 7)))))) := by decide +kernel
theorem own_t2 : ((((((70 : Int32).toInt64 = 70 ∧ ((72 : Int32).toInt64 = 72 ∧ (72 : Int64) &&& 127 = 72)) ∧ ((72 : Int64).toInt32 = 72 ∧ ((73 : Int32).toInt64 = 73 ∧ (74 : Int32).toInt64 = 74))) ∧ (((74 : Int64) &&& 127 = 74 ∧ ((74 : Int64).toInt32 = 74 ∧ (742902912351281229 : Int64) &&& 255 = 77)) ∧ ((76 : Int32).toInt64 = 76 ∧ ((76 : Int64) &&& 127 = 76 ∧ (76 : Int64).toInt32 = 76)))) ∧ ((((77 : Int32).toInt64 = 77 ∧ ((77 : Int64).toInt32 = 77 ∧ (78 : Int32).toInt64 = 78)) ∧ ((78 : Int64).toInt32 = 78 ∧ ((79 : Int32).toInt64 = 79 ∧ (79 : Int64).toInt32 = 79))) ∧ (((80 : Int32).toInt64 = 80 ∧ ((80 : Int64).toInt32 = 80 ∧ (81 : Int32).toInt64 = 81)) ∧ ((81 : Int64).toInt32 = 81 ∧ ((82 : Int32).toInt64 = 82 ∧ (82 : Int64).toInt32 = 82))))) ∧ (((((8257 : Int64) &&& 255 = 65 ∧ ((83 : Int32).toInt64 = 83 ∧ (84 : Int32).toInt64 = 84)) ∧ ((84 : Int64) &&& 255 = 84 ∧ ((84 : Int64).toInt32 = 84 ∧ (85 : Int32).toInt64 = 85))) ∧ (((85 : Int64).toInt32 = 85 ∧ ((8913 : Int64) &&& 127 = 81 ∧ (90 : Int32).toInt64 = 90)) ∧ ((90 : Int64).toInt32 = 90 ∧ ((9078960845503052 : Int64) &&& 255 = 76 ∧ (92 : Int64).toInt32 = 92)))) ∧ ((((92686604319301 : Int64) &&& 255 = 69 ∧ ((9292 : Int64) &&& 127 = 76 ∧ (95 : Int32).toInt64 = 95)) ∧ ((95 : Int64).toInt32 = 95 ∧ ((9549 : Int64) &&& 127 = 77 ∧ (9562 : Int64) &&& 127 = 90))) ∧ (((97 : Int32) &&& 255 = 97 ∧ ((9796 : Int64) &&& 127 = 68 ∧ (98 : Int32) &&& 255 = 98)) ∧ ((9823 : Int64) &&& 127 = 95 ∧ (XT.ushrL 11292011154762 0 = 11292011154762 ∧ XT.ushrL 11292011154762 16 = 172302416)))))) := by decide +kernel
theorem own_t3 : (((((XT.ushrL 11292011154762 24 = 673056 ∧ (XT.ushrL 11292011154762 32 = 2629 ∧ XT.ushrL 11292011154762 40 = 10)) ∧ (XT.ushrL 11292011154762 48 = 0 ∧ (XT.ushrL 11292011154762 8 = 44109418573 ∧ XT.ushrL 1140949 0 = 1140949))) ∧ ((XT.ushrL 1140949 14 = 69 ∧ (XT.ushrL 1140949 7 = 8913 ∧ XT.ushrL 1189460 0 = 1189460)) ∧ (XT.ushrL 1189460 14 = 72 ∧ (XT.ushrL 1189460 7 = 9292 ∧ XT.ushrL 1222352 0 = 1222352)))) ∧ (((XT.ushrL 1222352 14 = 74 ∧ (XT.ushrL 1222352 7 = 9549 ∧ XT.ushrL 1253953 0 = 1253953)) ∧ (XT.ushrL 1253953 14 = 76 ∧ (XT.ushrL 1253953 7 = 9796 ∧ XT.ushrL 1257393 0 = 1257393))) ∧ ((XT.ushrL 1257393 14 = 76 ∧ (XT.ushrL 1257393 7 = 9823 ∧ XT.ushrL 1257394 0 = 1257394)) ∧ (XT.ushrL 1257394 14 = 76 ∧ (XT.ushrL 1257394 7 = 9823 ∧ XT.ushrL 2324213976448781349 0 = 2324213976448781349))))) ∧ ((((XT.ushrL 2324213976448781349 16 = 35464690802746 ∧ (XT.ushrL 2324213976448781349 24 = 138533948448 ∧ XT.ushrL 2324213976448781349 32 = 541148236)) ∧ (XT.ushrL 2324213976448781349 40 = 2113860 ∧ (XT.ushrL 2324213976448781349 48 = 8257 ∧ XT.ushrL 2324213976448781349 56 = 32))) ∧ ((XT.ushrL 2324213976448781349 8 = 9078960845503052 ∧ (XT.ushrL 2870134647577162 0 = 2870134647577162 ∧ XT.ushrL 2870134647577162 16 = 43794779168)) ∧ (XT.ushrL 2870134647577162 24 = 171073356 ∧ (XT.ushrL 2870134647577162 32 = 668255 ∧ XT.ushrL 2870134647577162 40 = 2610)))) ∧ (((XT.ushrL 2870134647577162 48 = 10 ∧ (XT.ushrL 2870134647577162 56 = 0 ∧ XT.ushrL 2870134647577162 8 = 11211463467098)) ∧ (XT.ushrL 44245995077 0 = 44245995077 ∧ (XT.ushrL 44245995077 16 = 675140 ∧ XT.ushrL 44245995077 24 = 2637))) ∧ ((XT.ushrL 44245995077 32 = 10 ∧ (XT.ushrL 44245995077 40 = 0 ∧ XT.ushrL 44245995077 8 = 172835918)) ∧ (XT.ushrL 667996 0 = 667996 ∧ (XT.ushrL 667996 16 = 10 ∧ XT.ushrL 667996 24 = 0)))))) := by decide +kernel
theorem own_t4 : (((((XT.ushrL 667996 8 = 2609 ∧ (XT.ushrL 69 0 = 69 ∧ XT.ushrL 69 7 = 0)) ∧ (XT.ushrL 72 7 = 0 ∧ (XT.ushrL 74 7 = 0 ∧ XT.ushrL 742902912351281229 0 = 742902912351281229))) ∧ ((XT.ushrL 742902912351281229 16 = 11335798833485 ∧ (XT.ushrL 742902912351281229 24 = 44280464193 ∧ XT.ushrL 742902912351281229 32 = 172970563)) ∧ (XT.ushrL 742902912351281229 40 = 675666 ∧ (XT.ushrL 742902912351281229 48 = 2639 ∧ XT.ushrL 742902912351281229 56 = 10)))) ∧ (((XT.ushrL 742902912351281229 8 = 2901964501372192 ∧ (XT.ushrL 76 7 = 0 ∧ XT.ushrL 8913 7 = 69)) ∧ (XT.ushrL 92686604319301 0 = 92686604319301 ∧ (XT.ushrL 92686604319301 16 = 1414285344 ∧ XT.ushrL 92686604319301 24 = 5524552))) ∧ ((XT.ushrL 92686604319301 32 = 21580 ∧ (XT.ushrL 92686604319301 40 = 84 ∧ XT.ushrL 92686604319301 48 = 0)) ∧ (XT.ushrL 92686604319301 8 = 362057048122 ∧ (XT.ushrL 9292 7 = 72 ∧ XT.ushrL 9549 7 = 74))))) ∧ ((((XT.ushrL 9562 0 = 9562 ∧ (XT.ushrL 9562 7 = 74 ∧ XT.ushrL 9796 7 = 76)) ∧ (XT.ushrL 9823 7 = 76 ∧ (nar .char (10) = (10) ∧ nar .char (32) = (32)))) ∧ ((nar .char (37) = (37) ∧ (nar .char (48) = (48) ∧ nar .char (49) = (49))) ∧ (nar .char (50) = (50) ∧ (nar .char (53) = (53) ∧ nar .char (54) = (54))))) ∧ (((nar .char (55) = (55) ∧ (nar .char (58) = (58) ∧ nar .char (62) = (62))) ∧ (nar .char (65) = (65) ∧ (nar .char (67) = (67) ∧ nar .char (68) = (68)))) ∧ ((nar .char (69) = (69) ∧ (nar .char (72) = (72) ∧ nar .char (74) = (74))) ∧ (nar .char (76) = (76) ∧ (nar .char (77) = (77) ∧ nar .char (78) = (78))))))) := by decide +kernel
theorem own_t5 : (((nar .char (79) = (79) ∧ nar .char (80) = (80)) ∧ (nar .char (81) = (81) ∧ nar .char (82) = (82))) ∧ ((nar .char (84) = (84) ∧ nar .char (85) = (85)) ∧ (nar .char (90) = (90) ∧ (nar .char (92) = (92) ∧ nar .char (95) = (95))))) := by decide +kernel
def own_r1_0 := And.intro (And.intro (And.intro (And.intro @m1_5 (And.intro @m1_12 @m1_16)) (And.intro @m1_19u (And.intro @m1_19i @m1_21))) (And.intro (And.intro @m1_26 (And.intro @m1_29 @m1_32)) (And.intro (And.intro @m1_35 @m1_40) (And.intro @m1_49 @m1_63)))) (And.intro (And.intro (And.intro @m1_66 (And.intro @m1_72 @m1_82)) (And.intro @m1_94 (And.intro @m1_97 @m1_98))) (And.intro (And.intro @m1_99 (And.intro @m1_109 @m1_115)) (And.intro (And.intro @m1_119 @m1_120) (And.intro @m1_123 @m1_124))))
def own_r2_0 := And.intro @m2_0 @m2_11
def own_r3_0 := And.intro (And.intro @m3_0 @m3_6) (And.intro @m3_12 (And.intro @m3_18 @m3_23))
def own_r4_0 := And.intro (And.intro @m4_0 (And.intro @m4_5 @m4_10)) (And.intro (And.intro @m4_15 @m4_20) (And.intro @m4_25 @m4_30))
def own_r5_0 := And.intro (And.intro (And.intro (And.intro @m5_0 @m5_1) (And.intro @m5_4 (And.intro @m5_6 @m5_13))) (And.intro (And.intro @m5_20 (And.intro @m5_27 @m5_28)) (And.intro @m5_31 (And.intro @m5_37 @m5_44)))) (And.intro (And.intro (And.intro @m5_65 (And.intro @m5_72 @m5_73)) (And.intro @m5_76 (And.intro @m5_119 @m5_124))) (And.intro (And.intro @m5_129 (And.intro @m5_137 @m5_145)) (And.intro @m5_146 (And.intro @m5_149 @m5_153))))
def own_r6_0 := And.intro (And.intro (And.intro (And.intro @m6_5 @m6_10) (And.intro @m6_15 @m6_20)) (And.intro (And.intro @m6_25 @m6_30) (And.intro @m6_35 (And.intro @m6_40 @m6_45)))) (And.intro (And.intro (And.intro @m6_50 @m6_55) (And.intro @m6_60 @m6_65)) (And.intro (And.intro @m6_70 @m6_71) (And.intro @m6_74 (And.intro @m6_77 @m6_80))))
def own_r7_0 := And.intro (And.intro (And.intro (And.intro @m7_0 @m7_5) (And.intro @m7_9 @m7_17)) (And.intro (And.intro @m7_24 @m7_30) (And.intro @m7_32 (And.intro @m7_35 @m7_45)))) (And.intro (And.intro (And.intro @m7_55 @m7_65) (And.intro @m7_75 (And.intro @m7_79 @m7_85))) (And.intro (And.intro @m7_93 @m7_103) (And.intro @m7_113 (And.intro @m7_126 @m7_136))))
def own_r8_0 := And.intro (And.intro (And.intro @m8_0 @m8_5) (And.intro @m8_10 @m8_15)) (And.intro (And.intro @m8_21 @m8_27) (And.intro @m8_30 (And.intro @m8_34 @m8_37)))
def own_r9_0 := And.intro (And.intro (And.intro (And.intro @m9_11 (And.intro @m9_12 @m9_15)) (And.intro (And.intro @m9_16 @m9_31) (And.intro @m9_39 @m9_45))) (And.intro (And.intro @m9_46 (And.intro @m9_49 @m9_52)) (And.intro (And.intro @m9_62 @m9_77) (And.intro @m9_81 @m9_94)))) (And.intro (And.intro (And.intro @m9_101 (And.intro @m9_103 @m9_106)) (And.intro (And.intro @m9_109 @m9_111) (And.intro @m9_114 @m9_122))) (And.intro (And.intro @m9_130 (And.intro @m9_132 @m9_135)) (And.intro (And.intro @m9_138 @m9_153) (And.intro @m9_154 @m9_157))))
def own_r10_0 := And.intro (And.intro (And.intro @m10_0 @m10_5) (And.intro @m10_11u (And.intro @m10_12 @m10_19))) (And.intro (And.intro @m10_22 (And.intro @m10_32 @m10_46)) (And.intro @m10_47 (And.intro @m10_57 @m10_63)))
def own_r11_0 := And.intro (And.intro (And.intro (And.intro (And.intro @m11_0 (And.intro @m11_1 @m11_4)) (And.intro @m11_9 (And.intro @m11_12u @m11_13))) (And.intro (And.intro @m11_21 (And.intro @m11_27 @m11_29)) (And.intro @m11_37 (And.intro @m11_44 @m11_47)))) (And.intro (And.intro (And.intro @m11_55 (And.intro @m11_57 @m11_60u)) (And.intro @m11_61 (And.intro @m11_64 @m11_67))) (And.intro (And.intro @m11_68 (And.intro @m11_70 @m11_73u)) (And.intro @m11_75 (And.intro @m11_78 @m11_81))))) (And.intro (And.intro (And.intro (And.intro @m11_83 (And.intro @m11_88 @m11_91)) (And.intro @m11_92 (And.intro @m11_100 @m11_105))) (And.intro (And.intro @m11_108 (And.intro @m11_109 @m11_112)) (And.intro @m11_113 (And.intro @m11_116 @m11_117)))) (And.intro (And.intro (And.intro @m11_119 (And.intro @m11_122u @m11_124)) (And.intro @m11_129 (And.intro @m11_132 @m11_135))) (And.intro (And.intro @m11_136 (And.intro @m11_138 @m11_141u)) (And.intro (And.intro @m11_143 @m11_153) (And.intro @m11_157 @m11_160)))))
def own_r12_0 := And.intro (And.intro (And.intro (And.intro @m12_0 (And.intro @m12_5 @m12_10)) (And.intro @m12_12 (And.intro @m12_15u @m12_16))) (And.intro (And.intro @m12_24 (And.intro @m12_31 @m12_34)) (And.intro @m12_38 (And.intro @m12_40 @m12_43u)))) (And.intro (And.intro (And.intro @m12_44 (And.intro @m12_46 @m12_49u)) (And.intro @m12_50 (And.intro @m12_58 @m12_64))) (And.intro (And.intro @m12_66 (And.intro @m12_69 @m12_74)) (And.intro (And.intro @m12_78 @m12_81) (And.intro @m12_84 @m12_91))))
def own_r13_0 := And.intro (And.intro (And.intro @m13_0 @m13_4) (And.intro @m13_11 @m13_19)) (And.intro (And.intro @m13_25 @m13_27) (And.intro @m13_30 (And.intro @m13_39 @m13_40)))
def own_r14_0 := And.intro (And.intro @m14_0 (And.intro @m14_6 @m14_12)) (And.intro (And.intro @m14_24 @m14_30) (And.intro @m14_34 @m14_35))
def own_r15_0 := And.intro (And.intro (And.intro @m15_0 @m15_4) (And.intro @m15_11 @m15_19)) (And.intro (And.intro @m15_26 @m15_29) (And.intro @m15_32 (And.intro @m15_41 @m15_42)))
def own_r16_0 := And.intro (And.intro (And.intro @m16_0 @m16_2) (And.intro @m16_5 @m16_8)) (And.intro (And.intro @m16_10 @m16_13) (And.intro @m16_16 (And.intro @m16_20 @m16_21)))
def own_r17_0 := And.intro (And.intro @m17_0 @m17_6) (And.intro @m17_12 (And.intro @m17_16 @m17_17))
def own_r18_0 := And.intro (And.intro (And.intro @m18_0 (And.intro @m18_8 @m18_17)) (And.intro (And.intro @m18_18 @m18_19) (And.intro @m18_22 @m18_28))) (And.intro (And.intro @m18_37 (And.intro @m18_49 @m18_50)) (And.intro (And.intro @m18_51 @m18_52) (And.intro @m18_58 @m18_59)))
def own_r19_0 := And.intro (And.intro (And.intro @m19_0 (And.intro @m19_4 @m19_12)) (And.intro @m19_19 (And.intro @m19_22 @m19_25))) (And.intro (And.intro @m19_28 (And.intro @m19_29 @m19_31)) (And.intro (And.intro @m19_34u @m19_35) (And.intro @m19_38 @m19_41)))
def own_r20_0 := And.intro (And.intro (And.intro (And.intro (And.intro (And.intro @m20_0 @m20_1_0) (And.intro @m20_1_1 @m20_1_2)) (And.intro (And.intro @m20_1_3 @m20_1_4) (And.intro @m20_1_5 @m20_1_6))) (And.intro (And.intro (And.intro @m20_1_7 @m20_1_8) (And.intro @m20_1_9 @m20_1_10)) (And.intro (And.intro @m20_1_11 @m20_1_12) (And.intro @m20_1_13 @m20_1_14)))) (And.intro (And.intro (And.intro (And.intro @m20_1_15 @m20_1_16) (And.intro @m20_1_17 @m20_1_18)) (And.intro (And.intro @m20_92 @m20_101) (And.intro @m20_104 @m20_105))) (And.intro (And.intro (And.intro @m20_114 @m20_117) (And.intro @m20_118 @m20_127)) (And.intro (And.intro @m20_130 @m20_131) (And.intro @m20_140 @m20_143))))) (And.intro (And.intro (And.intro (And.intro (And.intro @m20_144 @m20_153) (And.intro @m20_156 @m20_157)) (And.intro (And.intro @m20_166 @m20_169) (And.intro @m20_170 @m20_179))) (And.intro (And.intro (And.intro @m20_182 @m20_183) (And.intro @m20_192 @m20_195)) (And.intro (And.intro @m20_196 @m20_205) (And.intro @m20_208 @m20_209)))) (And.intro (And.intro (And.intro (And.intro @m20_217 @m20_220) (And.intro @m20_221 @m20_229)) (And.intro (And.intro @m20_232 @m20_233) (And.intro @m20_242 @m20_245))) (And.intro (And.intro (And.intro @m20_246 @m20_257) (And.intro @m20_260 @m20_261)) (And.intro (And.intro @m20_271 @m20_274) (And.intro @m20_275 @m20_283)))))
def own_r20_1 := And.intro (And.intro (And.intro @m20_286 (And.intro @m20_287 @m20_297)) (And.intro @m20_300 (And.intro @m20_301 @m20_312))) (And.intro (And.intro @m20_315 (And.intro @m20_316 @m20_326)) (And.intro (And.intro @m20_329 @m20_330) (And.intro @m20_340 @m20_343)))
def own_r21_0 := And.intro (And.intro (And.intro @m21_0 (And.intro @m21_9 @m21_11)) (And.intro @m21_15 (And.intro @m21_24 @m21_26))) (And.intro (And.intro @m21_31 (And.intro @m21_41 @m21_43)) (And.intro (And.intro @m21_48 @m21_58) (And.intro @m21_60 @m21_62)))
def own_r22_0 := And.intro (And.intro (And.intro (And.intro (And.intro @m22_0 @m22_12) (And.intro @m22_17 @m22_20)) (And.intro (And.intro @m22_28 @m22_36) (And.intro @m22_42 @m22_43))) (And.intro (And.intro (And.intro @m22_46 @m22_52) (And.intro @m22_53 @m22_56)) (And.intro (And.intro @m22_62 @m22_65) (And.intro @m22_68 (And.intro @m22_69 @m22_77))))) (And.intro (And.intro (And.intro (And.intro @m22_84 @m22_96) (And.intro @m22_102 @m22_103)) (And.intro (And.intro @m22_105 @m22_108) (And.intro @m22_111 @m22_113))) (And.intro (And.intro (And.intro @m22_116 @m22_119) (And.intro @m22_133 @m22_143)) (And.intro (And.intro @m22_156 @m22_169) (And.intro @m22_177 (And.intro @m22_187 @m22_192)))))
def own_r23_0 := And.intro (And.intro (And.intro (And.intro (And.intro @m23_0 @m23_5) (And.intro @m23_9 @m23_16)) (And.intro (And.intro @m23_24 @m23_31) (And.intro @m23_37u @m23_37i))) (And.intro (And.intro (And.intro @m23_39 @m23_47) (And.intro @m23_54 @m23_60)) (And.intro (And.intro @m23_63 @m23_66) (And.intro @m23_69 (And.intro @m23_71 @m23_74u))))) (And.intro (And.intro (And.intro (And.intro @m23_74i @m23_76) (And.intro @m23_90 @m23_94)) (And.intro (And.intro @m23_97 @m23_99) (And.intro @m23_104 @m23_107))) (And.intro (And.intro (And.intro @m23_113 @m23_116) (And.intro @m23_119 @m23_122)) (And.intro (And.intro @m23_124 @m23_127i) (And.intro @m23_128 (And.intro @m23_185 @m23_191)))))
def own_r24_0 := And.intro (And.intro @m24_0 (And.intro @m24_15 @m24_25)) (And.intro @m24_35 (And.intro @m24_45 @m24_55))
def own_r25_0 := And.intro (And.intro (And.intro @m25_0 (And.intro @m25_8 @m25_10)) (And.intro @m25_16 (And.intro @m25_18 @m25_21))) (And.intro (And.intro @m25_22 (And.intro @m25_23 @m25_26)) (And.intro (And.intro @m25_27 @m25_28) (And.intro @m25_34 @m25_35)))
def own_r26_0 := And.intro (And.intro (And.intro @m26_0 (And.intro @m26_8 @m26_10)) (And.intro @m26_18 (And.intro @m26_24 @m26_30))) (And.intro (And.intro @m26_31 (And.intro @m26_32 @m26_35)) (And.intro @m26_36 (And.intro @m26_43 @m26_44)))
def own_r27_0 := And.intro (And.intro (And.intro @m27_0 (And.intro @m27_2 @m27_5)) (And.intro @m27_6 (And.intro @m27_10 @m27_13))) (And.intro (And.intro @m27_14 (And.intro @m27_17 @m27_24)) (And.intro @m27_33 (And.intro @m27_43 @m27_48)))
def own_r28_0 := And.intro (And.intro @m28_0 (And.intro @m28_2 @m28_5u)) (And.intro @m28_6 (And.intro @m28_8 @m28_11))
def own_r29_0 := And.intro (And.intro (And.intro (And.intro @m29_0 (And.intro @m29_1 @m29_4)) (And.intro (And.intro @m29_12 @m29_22) (And.intro @m29_27 @m29_35))) (And.intro (And.intro @m29_43 (And.intro @m29_49 @m29_51)) (And.intro (And.intro @m29_54 @m29_63) (And.intro @m29_66 @m29_69i)))) (And.intro (And.intro (And.intro @m29_71 (And.intro @m29_82 @m29_84)) (And.intro (And.intro @m29_87 @m29_91) (And.intro @m29_110 @m29_121))) (And.intro (And.intro (And.intro @m29_132 @m29_143) (And.intro @m29_152 @m29_157)) (And.intro (And.intro @m29_162 @m29_165) (And.intro @m29_173 @m29_176))))
def own_r30_0 := And.intro (And.intro @m30_0 @m30_7) (And.intro @m30_16 @m30_19)
def own_r31_0 := And.intro (And.intro (And.intro @m31_0 (And.intro @m31_8 @m31_14)) (And.intro (And.intro @m31_22 @m31_29) (And.intro @m31_31 @m31_34))) (And.intro (And.intro @m31_36 (And.intro @m31_43 @m31_45)) (And.intro (And.intro @m31_51 @m31_57) (And.intro @m31_65 @m31_69)))
def own_r32_0 := And.intro (And.intro (And.intro @m32_0 @m32_15) (And.intro @m32_25 @m32_35)) (And.intro (And.intro @m32_45 @m32_55) (And.intro @m32_65 @m32_66))
def own_r33_0 := And.intro (And.intro (And.intro @m33_0 (And.intro @m33_9 @m33_15)) (And.intro @m33_23 (And.intro @m33_29 @m33_36))) (And.intro (And.intro @m33_38 (And.intro @m33_41 @m33_47)) (And.intro (And.intro @m33_58 @m33_61) (And.intro @m33_70 @m33_76)))
def own_r34_0 := And.intro (And.intro (And.intro (And.intro @m34_0 @m34_9) (And.intro @m34_17 (And.intro @m34_24 @m34_31))) (And.intro (And.intro @m34_33 @m34_36) (And.intro @m34_45 (And.intro @m34_48 @m34_56)))) (And.intro (And.intro (And.intro @m34_63 @m34_72) (And.intro @m34_74 (And.intro @m34_86 @m34_104))) (And.intro (And.intro @m34_112 (And.intro @m34_115 @m34_122)) (And.intro @m34_143 (And.intro @m34_144 @m34_150))))
def own_r35_0 := And.intro (And.intro (And.intro @m35_0 @m35_2) (And.intro @m35_10 @m35_16)) (And.intro (And.intro @m35_22 @m35_23) (And.intro @m35_26 @m35_32))
def own_r36_0 := And.intro (And.intro (And.intro (And.intro (And.intro @m36_0 @m36_5) (And.intro @m36_6 (And.intro @m36_9u @m36_10))) (And.intro (And.intro @m36_19 @m36_25u) (And.intro @m36_26 (And.intro @m36_32u @m36_34)))) (And.intro (And.intro (And.intro @m36_37 @m36_45) (And.intro @m36_51 (And.intro @m36_58 @m36_64u))) (And.intro (And.intro @m36_64i @m36_66) (And.intro @m36_74 (And.intro @m36_82 @m36_86u))))) (And.intro (And.intro (And.intro (And.intro @m36_86i @m36_88) (And.intro @m36_95 (And.intro @m36_102 @m36_109))) (And.intro (And.intro @m36_116 @m36_119) (And.intro @m36_125 (And.intro @m36_132 @m36_135)))) (And.intro (And.intro (And.intro @m36_138 @m36_141) (And.intro @m36_153 (And.intro @m36_156i @m36_157))) (And.intro (And.intro @m36_160 @m36_163) (And.intro @m36_166 (And.intro @m36_169 @m36_175)))))
def own_r37_0 := And.intro (And.intro (And.intro @m37_0 @m37_7) (And.intro @m37_11 @m37_17)) (And.intro (And.intro @m37_23 @m37_24) (And.intro @m37_27 @m37_28))
def own_r38_0 := And.intro (And.intro (And.intro (And.intro @m38_0 @m38_6) (And.intro @m38_14 (And.intro @m38_20 @m38_28))) (And.intro (And.intro @m38_31 @m38_34) (And.intro @m38_42 (And.intro @m38_45 @m38_54)))) (And.intro (And.intro (And.intro @m38_57 @m38_60) (And.intro @m38_62 (And.intro @m38_65 @m38_71))) (And.intro (And.intro @m38_78 @m38_86) (And.intro @m38_89 (And.intro @m38_95 @m38_97))))
def own_r39_0 := And.intro (And.intro @m39_0 @m39_14) (And.intro @m39_25 @m39_35)
def own_r40_0 := And.intro (And.intro (And.intro (And.intro @m40_0 @m40_8) (And.intro @m40_9 (And.intro @m40_10u @m40_11))) (And.intro (And.intro @m40_17 @m40_24) (And.intro @m40_37 (And.intro @m40_38 @m40_39)))) (And.intro (And.intro (And.intro @m40_40 @m40_41) (And.intro @m40_44 (And.intro @m40_45i @m40_46))) (And.intro (And.intro @m40_50 @m40_53) (And.intro @m40_59 (And.intro @m40_78 @m40_83))))
def own_r41_0 := And.intro (And.intro (And.intro @m41_0 @m41_7) (And.intro @m41_11 (And.intro @m41_20 @m41_28))) (And.intro (And.intro @m41_31 (And.intro @m41_38 @m41_45)) (And.intro @m41_58 (And.intro @m41_61 @m41_67)))
def own_r42_0 := And.intro (And.intro (And.intro @m42_0 (And.intro @m42_6 @m42_12)) (And.intro (And.intro @m42_23 @m42_28) (And.intro @m42_31 @m42_39))) (And.intro (And.intro (And.intro @m42_44 @m42_46) (And.intro @m42_49 @m42_52)) (And.intro (And.intro @m42_58 @m42_62) (And.intro @m42_65 @m42_86)))
def own_r43_0 := And.intro (And.intro (And.intro (And.intro @m43_0 @m43_7) (And.intro @m43_15 @m43_23)) (And.intro (And.intro @m43_30 @m43_33) (And.intro @m43_36 @m43_46))) (And.intro (And.intro (And.intro @m43_48 @m43_49) (And.intro @m43_50i @m43_51)) (And.intro (And.intro @m43_60 @m43_64) (And.intro @m43_67 @m43_68)))
def own_r44_0 := And.intro (And.intro (And.intro (And.intro @m44_0 (And.intro @m44_12 @m44_18)) (And.intro @m44_20 (And.intro @m44_28 @m44_29))) (And.intro (And.intro @m44_32 (And.intro @m44_40 @m44_42)) (And.intro (And.intro @m44_45u @m44_47) (And.intro @m44_61 @m44_65)))) (And.intro (And.intro (And.intro @m44_72 (And.intro @m44_79 @m44_88)) (And.intro (And.intro @m44_98 @m44_101) (And.intro @m44_102 @m44_108))) (And.intro (And.intro @m44_111 (And.intro @m44_120 @m44_123)) (And.intro (And.intro @m44_130 @m44_137) (And.intro @m44_144 @m44_147))))
def own_r45_0 := And.intro (And.intro (And.intro @m45_0 (And.intro @m45_6 @m45_8)) (And.intro @m45_11 (And.intro @m45_14 @m45_16))) (And.intro (And.intro @m45_19 (And.intro @m45_22 @m45_36)) (And.intro @m45_46 (And.intro @m45_56 @m45_66)))
def own_r46_0 := And.intro (And.intro (And.intro @m46_0 (And.intro @m46_2 @m46_10)) (And.intro @m46_16 (And.intro @m46_22 @m46_23))) (And.intro (And.intro @m46_24 (And.intro @m46_27 @m46_28)) (And.intro @m46_29 (And.intro @m46_35 @m46_36)))
def own_r47_0 := And.intro (And.intro (And.intro (And.intro (And.intro @m47_0 @m47_5) (And.intro @m47_10 @m47_15)) (And.intro (And.intro @m47_20 @m47_27) (And.intro @m47_35 (And.intro @m47_36u @m47_36i)))) (And.intro (And.intro (And.intro @m47_38 @m47_39u) (And.intro @m47_39i @m47_41)) (And.intro (And.intro @m47_49 @m47_57) (And.intro @m47_63 (And.intro @m47_65 @m47_82))))) (And.intro (And.intro (And.intro (And.intro @m47_90 @m47_96) (And.intro @m47_102 @m47_103)) (And.intro (And.intro @m47_106 @m47_119) (And.intro @m47_120 (And.intro @m47_121 @m47_124)))) (And.intro (And.intro (And.intro @m47_127 @m47_133) (And.intro @m47_134 (And.intro @m47_137 @m47_144))) (And.intro (And.intro @m47_146 @m47_149) (And.intro @m47_154 (And.intro @m47_187 @m47_188)))))
def own_r48_0 := And.intro (And.intro @m48_0 @m48_11) (And.intro @m48_25 (And.intro @m48_39 @m48_49))
def own_r49_0 := And.intro (And.intro (And.intro (And.intro @m49_0 @m49_7) (And.intro @m49_17 @m49_24)) (And.intro (And.intro @m49_38 @m49_43) (And.intro @m49_44 (And.intro @m49_46 @m49_49)))) (And.intro (And.intro (And.intro @m49_52 @m49_59) (And.intro @m49_66 (And.intro @m49_77 @m49_78))) (And.intro (And.intro @m49_86 @m49_96) (And.intro @m49_106 (And.intro @m49_115 @m49_118))))
def own_r50_0 := And.intro (And.intro (And.intro (And.intro @m50_0 @m50_2) (And.intro @m50_5u @m50_7)) (And.intro (And.intro @m50_12 @m50_25) (And.intro @m50_26 @m50_27))) (And.intro (And.intro (And.intro @m50_30 @m50_31) (And.intro @m50_36 @m50_39)) (And.intro (And.intro @m50_85 @m50_100) (And.intro @m50_110 (And.intro @m50_120 @m50_130))))
def own_r51_0 := And.intro (And.intro (And.intro (And.intro @m51_0 @m51_14) (And.intro @m51_24 @m51_37)) (And.intro (And.intro @m51_50 @m51_63) (And.intro @m51_76 @m51_78))) (And.intro (And.intro (And.intro @m51_86 @m51_92) (And.intro @m51_111 @m51_112)) (And.intro (And.intro @m51_131 @m51_132) (And.intro @m51_138 @m51_148)))
def own_r52_0 := And.intro (And.intro @m52_0 (And.intro @m52_13 @m52_14)) (And.intro (And.intro @m52_17 @m52_25) (And.intro @m52_27 @m52_30))
def own_r53_0 := And.intro (And.intro (And.intro (And.intro (And.intro @m53_2 @m53_10) (And.intro @m53_16 @m53_23)) (And.intro (And.intro @m53_26 @m53_32) (And.intro @m53_40 (And.intro @m53_46u @m53_46i)))) (And.intro (And.intro (And.intro @m53_47 @m53_48u) (And.intro @m53_48i @m53_49)) (And.intro (And.intro @m53_56 @m53_59) (And.intro @m53_65 (And.intro @m53_77 @m53_80u))))) (And.intro (And.intro (And.intro (And.intro @m53_80i @m53_82) (And.intro @m53_92 @m53_104)) (And.intro (And.intro @m53_111 @m53_112) (And.intro @m53_113i (And.intro @m53_114 @m53_120)))) (And.intro (And.intro (And.intro @m53_126 @m53_129) (And.intro @m53_135 @m53_137)) (And.intro (And.intro @m53_140 @m53_150) (And.intro @m53_155 (And.intro @m53_156 @m53_162)))))
def own_r54_0 := And.intro (And.intro (And.intro (And.intro @m54_5 (And.intro @m54_7 @m54_15)) (And.intro @m54_21 (And.intro @m54_28 @m54_31))) (And.intro (And.intro @m54_34 (And.intro @m54_37 @m54_40)) (And.intro @m54_43 (And.intro @m54_46 @m54_49)))) (And.intro (And.intro (And.intro @m54_56 (And.intro @m54_59 @m54_62)) (And.intro @m54_65 (And.intro @m54_71 @m54_75))) (And.intro (And.intro @m54_81 (And.intro @m54_89 @m54_95)) (And.intro (And.intro @m54_97 @m54_100i) (And.intro @m54_101 @m54_107))))
def own_r55_0 := And.intro (And.intro (And.intro @m55_0 (And.intro @m55_2 @m55_5u)) (And.intro (And.intro @m55_6 @m55_9) (And.intro @m55_15 @m55_20))) (And.intro (And.intro @m55_23u (And.intro @m55_23i @m55_23g)) (And.intro (And.intro @m55_25 @m55_28) (And.intro @m55_31 @m55_37)))
def own_r56_0 := And.intro (And.intro (And.intro @m56_0 @m56_1) (And.intro @m56_2 (And.intro @m56_8 @m56_15))) (And.intro (And.intro @m56_21 @m56_25) (And.intro @m56_26 (And.intro @m56_35 @m56_37)))
def own_r57_0 := And.intro @m57_0 @m57_16
def own_r58_0 := And.intro (And.intro @m58_0 @m58_10) (And.intro @m58_11 (And.intro @m58_22 @m58_32))
def own_r59_0 := And.intro (And.intro @m59_0 (And.intro @m59_2 @m59_5)) (And.intro @m59_6 (And.intro @m59_8 @m59_11))
def own_r60_0 := And.intro (And.intro (And.intro @m60_0 @m60_2) (And.intro @m60_5 @m60_10)) (And.intro (And.intro @m60_16 @m60_23) (And.intro @m60_26 @m60_32))
def own_r61_0 := And.intro (And.intro (And.intro (And.intro (And.intro @m61_0 @m61_6u) (And.intro @m61_7 (And.intro @m61_11 @m61_16))) (And.intro (And.intro @m61_18 @m61_21) (And.intro @m61_24 (And.intro @m61_27 @m61_30)))) (And.intro (And.intro (And.intro @m61_31 @m61_37) (And.intro @m61_43 (And.intro @m61_47 @m61_48))) (And.intro (And.intro @m61_49 (And.intro @m61_50 @m61_53)) (And.intro @m61_56 (And.intro @m61_59 @m61_63))))) (And.intro (And.intro (And.intro (And.intro @m61_64 @m61_67) (And.intro @m61_70 (And.intro @m61_73 @m61_76))) (And.intro (And.intro @m61_77 @m61_84) (And.intro @m61_91 (And.intro @m61_101 @m61_109)))) (And.intro (And.intro (And.intro @m61_114 @m61_117) (And.intro @m61_120 (And.intro @m61_123 @m61_126))) (And.intro (And.intro @m61_129 (And.intro @m61_138 @m61_141)) (And.intro @m61_144 (And.intro @m61_147 @m61_150)))))
def own_r62_0 := And.intro (And.intro @m62_0 (And.intro @m62_4 @m62_6)) (And.intro (And.intro @m62_9 @m62_12) (And.intro @m62_20 @m62_26))
def own_r63_0 := And.intro @m63_0 (And.intro @m63_8 @m63_16)
def own_r64_0 := And.intro @m64_0 (And.intro @m64_8 @m64_16)
def own_r65_0 := And.intro (And.intro @m65_0 (And.intro @m65_4 @m65_6)) (And.intro (And.intro @m65_9 @m65_12) (And.intro @m65_20 @m65_26))
def own_r66_0 := And.intro (And.intro (And.intro @m66_0 (And.intro @m66_4 @m66_6)) (And.intro (And.intro @m66_9 @m66_12) (And.intro @m66_20 @m66_27))) (And.intro (And.intro @m66_30u (And.intro @m66_31 @m66_35)) (And.intro (And.intro @m66_42 @m66_49) (And.intro @m66_51 @m66_54)))
def own_r67_0 := And.intro @m67_0 (And.intro @m67_8 @m67_16)
def own_r68_0 := And.intro @m68_0 (And.intro @m68_15 @m68_16)
def own_r70_0 := And.intro (And.intro (And.intro (And.intro @m70_0 @m70_6) (And.intro @m70_7 (And.intro @m70_8 @m70_11))) (And.intro (And.intro @m70_15 @m70_18) (And.intro @m70_25 (And.intro @m70_26 @m70_27)))) (And.intro (And.intro (And.intro @m70_28 @m70_31) (And.intro @m70_34 (And.intro @m70_39 @m70_40))) (And.intro (And.intro @m70_43 @m70_46u) (And.intro @m70_47 (And.intro @m70_56 @m70_63))))
theorem own_x97 {l0 l1 l2 l3 l4 l5 : Slot} {J1 J2 : Int64} {st : List Value} {H : AHeap} {Q : Option Value → AHeap → Prop} : M23 97 [l0, l1, l2, l3, l4, l5, .val (.long J2), .second] (.long J1 :: st) H Q = M23 99 [l0, l1, l2, l3, l4, l5, .val (.long J1), .second] st H Q := w_x (dc (.lstore 6, 2)) rfl
def own_bs := And.intro (And.intro (And.intro @inB_iff @getA_set2) (And.intro @getL_set2 @setA_len)) (And.intro (And.intro @ou_a @ou_same) (And.intro (And.intro @ou_comm @setA_same) (And.intro @nb0 @nb1)))
section Un
variable {s : Nat → Int32} {A : Nat → List Int32} {L : Nat → Int64} {B : Nat → List Int64} {c2 c3 c4 d2 d3 d4 P R K : Int32} {Q : Option Value → AHeap → Prop}
set_option maxRecDepth 1000000 in
set_option maxHeartbeats 20000000 in
theorem own_u0 (hd : DG c2 c3 c4 P) (he : DG d2 d3 d4 R) (hk : DK K) (h : own_s0 s A L B c2 c3 c4 d2 d3 d4 P R K) (hQ : ∀ s' A' L' B', own_s1 s' A' L' B' c2 c3 c4 d2 d3 d4 P R K → Q (some (.int 8)) (put 0 [] s' A' L' B' [])) : M1 0 [.val (.ref 0), .val (.long 742902912351281229), .second, .unset, .unset, .unset] [] (put 0 [] s A L B []) Q := by
  unfold DG at hd he
  unfold DK at hk
  unfold own_s0 at h
  obtain ⟨hA, hB, h⟩ := h
  have bl := bL hA
  have bb := bB hB
  rw [m1_0]
  simp (maxSteps := 10000000) [h, hd, he, hk, bl, bb, own_bs, XT.cmpL, own_sh0, own_t0, own_t1, own_t2, own_t3, own_t4, own_t5, -Int64.toInt32_and, -Int64.toInt32_or, -Int64.toInt32_xor, -Int32.toInt64_and, -Int32.toInt64_or, -Int32.toInt64_xor, -Int32.toInt8_and, -Int32.toUInt32_and, -Int32.toUInt32_or, -Int32.toUInt32_xor, own_r1_0, own_r2_0, own_r3_0, own_r4_0]
  refine hQ _ _ _ _ ?_
  unfold own_s1 own_g0
  refine ⟨(by (repeat refine LN_ou ?_ (by simp only [setA_len]; exact hA _)); exact hA), (by (repeat refine LNB_ou ?_ (by simp only [setA_len]; exact hB _)); exact hB), ?_⟩
  simp [h, bl, bb, own_bs]
set_option maxRecDepth 1000000 in
set_option maxHeartbeats 20000000 in
theorem own_u1 (hd : DG c2 c3 c4 P) (he : DG d2 d3 d4 R) (hk : DK K) (h : own_s1 s A L B c2 c3 c4 d2 d3 d4 P R K) (hQ : ∀ s' A' L' B', own_s3 s' A' L' B' c2 c3 c4 d2 d3 d4 P R K → Q (some (.int 8)) (put 0 [] s' A' L' B' [])) : M1 0 [.val (.ref 0), .val (.long 2324213976448781349), .second, .unset, .unset, .unset] [] (put 0 [] s A L B []) Q := by
  unfold DG at hd he
  unfold DK at hk
  unfold own_s1 own_g0 at h
  obtain ⟨hA, hB, h⟩ := h
  have bl := bL hA
  have bb := bB hB
  rw [m1_0]
  simp (maxSteps := 10000000) [h, hd, he, hk, bl, bb, own_bs, XT.cmpL, own_sh0, own_t0, own_t1, own_t2, own_t3, own_t4, own_t5, -Int64.toInt32_and, -Int64.toInt32_or, -Int64.toInt32_xor, -Int32.toInt64_and, -Int32.toInt64_or, -Int32.toInt64_xor, -Int32.toInt8_and, -Int32.toUInt32_and, -Int32.toUInt32_or, -Int32.toUInt32_xor, own_r1_0, own_r2_0, own_r3_0, own_r4_0]
  refine hQ _ _ _ _ ?_
  unfold own_s3 own_g0 own_g1
  refine ⟨(by (repeat refine LN_ou ?_ (by simp only [setA_len]; exact hA _)); exact hA), (by (repeat refine LNB_ou ?_ (by simp only [setA_len]; exact hB _)); exact hB), ?_⟩
  simp [h, bl, bb, own_bs]
set_option maxRecDepth 1000000 in
set_option maxHeartbeats 20000000 in
theorem own_u2 (hd : DG c2 c3 c4 P) (he : DG d2 d3 d4 R) (hk : DK K) (h : own_s3 s A L B c2 c3 c4 d2 d3 d4 P R K) (hQ : ∀ s' A' L' B', own_s5 s' A' L' B' c2 c3 c4 d2 d3 d4 P R K → Q (some (.int 3)) (put 0 [] s' A' L' B' [])) : M1 0 [.val (.ref 0), .val (.long 667996), .second, .unset, .unset, .unset] [] (put 0 [] s A L B []) Q := by
  unfold DG at hd he
  unfold DK at hk
  unfold own_s3 own_g0 own_g1 at h
  obtain ⟨hA, hB, h⟩ := h
  have bl := bL hA
  have bb := bB hB
  rw [m1_0]
  simp (maxSteps := 10000000) [h, hd, he, hk, bl, bb, own_bs, XT.cmpL, own_sh0, own_t0, own_t1, own_t2, own_t3, own_t4, own_t5, -Int64.toInt32_and, -Int64.toInt32_or, -Int64.toInt32_xor, -Int32.toInt64_and, -Int32.toInt64_or, -Int32.toInt64_xor, -Int32.toInt8_and, -Int32.toUInt32_and, -Int32.toUInt32_or, -Int32.toUInt32_xor, own_r1_0, own_r2_0, own_r3_0, own_r4_0]
  refine hQ _ _ _ _ ?_
  unfold own_s5 own_g0 own_g1
  refine ⟨(by (repeat refine LN_ou ?_ (by simp only [setA_len]; exact hA _)); exact hA), (by (repeat refine LNB_ou ?_ (by simp only [setA_len]; exact hB _)); exact hB), ?_⟩
  simp [h, bl, bb, own_bs]
set_option maxRecDepth 1000000 in
set_option maxHeartbeats 20000000 in
theorem own_u3 (hd : DG c2 c3 c4 P) (he : DG d2 d3 d4 R) (hk : DK K) (h : own_s5 s A L B c2 c3 c4 d2 d3 d4 P R K) (hQ : ∀ s' A' L' B', own_s7 s' A' L' B' c2 c3 c4 d2 d3 d4 P R K → Q (some (.int 5)) (put 0 [] s' A' L' B' [])) : M1 0 [.val (.ref 0), .val (.long 44245995077), .second, .unset, .unset, .unset] [] (put 0 [] s A L B []) Q := by
  unfold DG at hd he
  unfold DK at hk
  unfold own_s5 own_g0 own_g1 at h
  obtain ⟨hA, hB, h⟩ := h
  have bl := bL hA
  have bb := bB hB
  rw [m1_0]
  simp (maxSteps := 10000000) [h, hd, he, hk, bl, bb, own_bs, XT.cmpL, own_sh0, own_t0, own_t1, own_t2, own_t3, own_t4, own_t5, -Int64.toInt32_and, -Int64.toInt32_or, -Int64.toInt32_xor, -Int32.toInt64_and, -Int32.toInt64_or, -Int32.toInt64_xor, -Int32.toInt8_and, -Int32.toUInt32_and, -Int32.toUInt32_or, -Int32.toUInt32_xor, own_r1_0, own_r2_0, own_r3_0, own_r4_0]
  refine hQ _ _ _ _ ?_
  unfold own_s7 own_g0 own_g1 own_g2
  refine ⟨(by (repeat refine LN_ou ?_ (by simp only [setA_len]; exact hA _)); exact hA), (by (repeat refine LNB_ou ?_ (by simp only [setA_len]; exact hB _)); exact hB), ?_⟩
  simp [h, bl, bb, own_bs]
set_option maxRecDepth 1000000 in
set_option maxHeartbeats 20000000 in
theorem own_u4 {W0 : Int64} (hw : WB W0 c2 c3 c4) (hd : DG c2 c3 c4 P) (he : DG d2 d3 d4 R) (hk : DK K) (h : own_s7 s A L B c2 c3 c4 d2 d3 d4 P R K) (hQ : ∀ s' A' L' B', own_s9 s' A' L' B' c2 c3 c4 d2 d3 d4 P R K → Q (some (.int 6)) (put 0 [] s' A' L' B' [])) : M1 0 [.val (.ref 0), .val (.long W0), .second, .unset, .unset, .unset] [] (put 0 [] s A L B []) Q := by
  unfold DG at hd he
  unfold DK at hk
  unfold WB at hw
  unfold own_s7 own_g0 own_g1 own_g2 at h
  obtain ⟨hA, hB, h⟩ := h
  have bl := bL hA
  have bb := bB hB
  rw [m1_0]
  simp (maxSteps := 10000000) [h, hd, he, hk, hw, bl, bb, own_bs, XT.cmpL, own_sh0, own_t0, own_t1, own_t2, own_t3, own_t4, own_t5, -Int64.toInt32_and, -Int64.toInt32_or, -Int64.toInt32_xor, -Int32.toInt64_and, -Int32.toInt64_or, -Int32.toInt64_xor, -Int32.toInt8_and, -Int32.toUInt32_and, -Int32.toUInt32_or, -Int32.toUInt32_xor, own_r1_0, own_r2_0, own_r3_0, own_r4_0]
  refine hQ _ _ _ _ ?_
  unfold own_s9 own_g0 own_g1 own_g2 own_g3
  refine ⟨(by (repeat refine LN_ou ?_ (by simp only [setA_len]; exact hA _)); exact hA), (by (repeat refine LNB_ou ?_ (by simp only [setA_len]; exact hB _)); exact hB), ?_⟩
  simp [h, bl, bb, own_bs]
set_option maxRecDepth 1000000 in
set_option maxHeartbeats 20000000 in
theorem own_u5 {W1 : Int64} (hw : WB W1 d2 d3 d4) (hd : DG c2 c3 c4 P) (he : DG d2 d3 d4 R) (hk : DK K) (h : own_s9 s A L B c2 c3 c4 d2 d3 d4 P R K) (hQ : ∀ s' A' L' B', own_s11 s' A' L' B' c2 c3 c4 d2 d3 d4 P R K → Q (some (.int 6)) (put 0 [] s' A' L' B' [])) : M1 0 [.val (.ref 0), .val (.long W1), .second, .unset, .unset, .unset] [] (put 0 [] s A L B []) Q := by
  unfold DG at hd he
  unfold DK at hk
  unfold WB at hw
  unfold own_s9 own_g0 own_g1 own_g2 own_g3 at h
  obtain ⟨hA, hB, h⟩ := h
  have bl := bL hA
  have bb := bB hB
  rw [m1_0]
  simp (maxSteps := 10000000) [h, hd, he, hk, hw, bl, bb, own_bs, XT.cmpL, own_sh0, own_t0, own_t1, own_t2, own_t3, own_t4, own_t5, -Int64.toInt32_and, -Int64.toInt32_or, -Int64.toInt32_xor, -Int32.toInt64_and, -Int32.toInt64_or, -Int32.toInt64_xor, -Int32.toInt8_and, -Int32.toUInt32_and, -Int32.toUInt32_or, -Int32.toUInt32_xor, own_r1_0, own_r2_0, own_r3_0, own_r4_0]
  refine hQ _ _ _ _ ?_
  unfold own_s11 own_g0 own_g1 own_g2 own_g3 own_g4
  refine ⟨(by (repeat refine LN_ou ?_ (by simp only [setA_len]; exact hA _)); exact hA), (by (repeat refine LNB_ou ?_ (by simp only [setA_len]; exact hB _)); exact hB), ?_⟩
  simp [h, bl, bb, own_bs]
set_option maxRecDepth 1000000 in
set_option maxHeartbeats 20000000 in
theorem own_u6 (hd : DG c2 c3 c4 P) (he : DG d2 d3 d4 R) (hk : DK K) (h : own_s11 s A L B c2 c3 c4 d2 d3 d4 P R K) (hQ : ∀ s' A' L' B', own_s13 s' A' L' B' c2 c3 c4 d2 d3 d4 P R K → Q (some (.int 7)) (put 0 [] s' A' L' B' [])) : M1 0 [.val (.ref 0), .val (.long 2870134647577162), .second, .unset, .unset, .unset] [] (put 0 [] s A L B []) Q := by
  unfold DG at hd he
  unfold DK at hk
  unfold own_s11 own_g0 own_g1 own_g2 own_g3 own_g4 at h
  obtain ⟨hA, hB, h⟩ := h
  have bl := bL hA
  have bb := bB hB
  rw [m1_0]
  simp (maxSteps := 10000000) [h, hd, he, hk, bl, bb, own_bs, XT.cmpL, own_sh0, own_t0, own_t1, own_t2, own_t3, own_t4, own_t5, -Int64.toInt32_and, -Int64.toInt32_or, -Int64.toInt32_xor, -Int32.toInt64_and, -Int32.toInt64_or, -Int32.toInt64_xor, -Int32.toInt8_and, -Int32.toUInt32_and, -Int32.toUInt32_or, -Int32.toUInt32_xor, own_r1_0, own_r2_0, own_r3_0, own_r4_0]
  refine hQ _ _ _ _ ?_
  unfold own_s13 own_g0 own_g1 own_g2 own_g3 own_g4 own_g5
  refine ⟨(by (repeat refine LN_ou ?_ (by simp only [setA_len]; exact hA _)); exact hA), (by (repeat refine LNB_ou ?_ (by simp only [setA_len]; exact hB _)); exact hB), ?_⟩
  simp [h, bl, bb, own_bs]
set_option maxRecDepth 1000000 in
set_option maxHeartbeats 20000000 in
theorem own_u7 (hd : DG c2 c3 c4 P) (he : DG d2 d3 d4 R) (hk : DK K) (h : own_s13 s A L B c2 c3 c4 d2 d3 d4 P R K) (hQ : ∀ s' A' L' B', own_s15 s' A' L' B' c2 c3 c4 d2 d3 d4 P R K → Q (some (.int 6)) (put 0 [] s' A' L' B' [])) : M1 0 [.val (.ref 0), .val (.long 11292011154762), .second, .unset, .unset, .unset] [] (put 0 [] s A L B []) Q := by
  unfold DG at hd he
  unfold DK at hk
  unfold own_s13 own_g0 own_g1 own_g2 own_g3 own_g4 own_g5 at h
  obtain ⟨hA, hB, h⟩ := h
  have bl := bL hA
  have bb := bB hB
  rw [m1_0]
  simp (maxSteps := 10000000) [h, hd, he, hk, bl, bb, own_bs, XT.cmpL, own_sh0, own_t0, own_t1, own_t2, own_t3, own_t4, own_t5, -Int64.toInt32_and, -Int64.toInt32_or, -Int64.toInt32_xor, -Int32.toInt64_and, -Int32.toInt64_or, -Int32.toInt64_xor, -Int32.toInt8_and, -Int32.toUInt32_and, -Int32.toUInt32_or, -Int32.toUInt32_xor, own_r1_0, own_r2_0, own_r3_0, own_r4_0]
  refine hQ _ _ _ _ ?_
  unfold own_s15 own_g0 own_g1 own_g2 own_g3 own_g4 own_g5 own_g6
  refine ⟨(by (repeat refine LN_ou ?_ (by simp only [setA_len]; exact hA _)); exact hA), (by (repeat refine LNB_ou ?_ (by simp only [setA_len]; exact hB _)); exact hB), ?_⟩
  simp [h, bl, bb, own_bs]
set_option maxRecDepth 1000000 in
set_option maxHeartbeats 20000000 in
theorem own_u8 (hd : DG c2 c3 c4 P) (he : DG d2 d3 d4 R) (hk : DK K) (h : own_s15 s A L B c2 c3 c4 d2 d3 d4 P R K) (hQ : ∀ s' A' L' B', own_s17 s' A' L' B' c2 c3 c4 d2 d3 d4 P R K → Q (some (.int 6)) (put 0 [] s' A' L' B' [])) : M1 0 [.val (.ref 0), .val (.long 92686604319301), .second, .unset, .unset, .unset] [] (put 0 [] s A L B []) Q := by
  unfold DG at hd he
  unfold DK at hk
  unfold own_s15 own_g0 own_g1 own_g2 own_g3 own_g4 own_g5 own_g6 at h
  obtain ⟨hA, hB, h⟩ := h
  have bl := bL hA
  have bb := bB hB
  rw [m1_0]
  simp (maxSteps := 10000000) [h, hd, he, hk, bl, bb, own_bs, XT.cmpL, own_sh0, own_t0, own_t1, own_t2, own_t3, own_t4, own_t5, -Int64.toInt32_and, -Int64.toInt32_or, -Int64.toInt32_xor, -Int32.toInt64_and, -Int32.toInt64_or, -Int32.toInt64_xor, -Int32.toInt8_and, -Int32.toUInt32_and, -Int32.toUInt32_or, -Int32.toUInt32_xor, own_r1_0, own_r2_0, own_r3_0, own_r4_0]
  refine hQ _ _ _ _ ?_
  unfold own_s17 own_g0 own_g1 own_g2 own_g3 own_g4 own_g5 own_g6 own_g7
  refine ⟨(by (repeat refine LN_ou ?_ (by simp only [setA_len]; exact hA _)); exact hA), (by (repeat refine LNB_ou ?_ (by simp only [setA_len]; exact hB _)); exact hB), ?_⟩
  simp [h, bl, bb, own_bs]
set_option maxRecDepth 1000000 in
set_option maxHeartbeats 20000000 in
theorem own_u9 (hd : DG c2 c3 c4 P) (he : DG d2 d3 d4 R) (hk : DK K) (h : own_s17 s A L B c2 c3 c4 d2 d3 d4 P R K) (hQ : ∀ s' A' L' B', own_s19 s' A' L' B' c2 c3 c4 d2 d3 d4 P R K → Q none (put 0 [] s' A' L' B' [])) : M6 0 [.val (.ref 0)] [] (put 0 [] s A L B []) Q := by
  unfold DG at hd he
  unfold DK at hk
  unfold own_s17 own_g0 own_g1 own_g2 own_g3 own_g4 own_g5 own_g6 own_g7 at h
  obtain ⟨hA, hB, h⟩ := h
  have bl := bL hA
  have bb := bB hB
  rw [m6_0]
  simp (maxSteps := 10000000) [h, hd, he, hk, bl, bb, own_bs, XT.cmpL, own_sh0, own_t0, own_t1, own_t2, own_t3, own_t4, own_t5, own_r6_0, own_r7_0, own_r8_0]
  refine hQ _ _ _ _ ?_
  unfold own_s19 own_g0 own_g1 own_g2 own_g3 own_g4 own_g5 own_g6 own_g7
  refine ⟨(by (repeat refine LN_ou ?_ (by simp only [setA_len]; exact hA _)); exact hA), (by (repeat refine LNB_ou ?_ (by simp only [setA_len]; exact hB _)); exact hB), ?_⟩
  simp [h, bl, bb, own_bs]
set_option maxRecDepth 1000000 in
set_option maxHeartbeats 20000000 in
theorem own_u10 (hd : DG c2 c3 c4 P) (he : DG d2 d3 d4 R) (hk : DK K) (h : own_s19 s A L B c2 c3 c4 d2 d3 d4 P R K) (hQ : ∀ s' A' L' B', own_s21 s' A' L' B' c2 c3 c4 d2 d3 d4 P R K → Q none (put 0 [] s' A' L' B' [])) : M9 0 [.val (.ref 0), .unset] [] (put 0 [] s A L B []) Q := by
  unfold DG at hd he
  unfold DK at hk
  unfold own_s19 own_g0 own_g1 own_g2 own_g3 own_g4 own_g5 own_g6 own_g7 at h
  obtain ⟨hA, hB, h⟩ := h
  have bl := bL hA
  have bb := bB hB
  rw [m9_0]
  simp (maxSteps := 10000000) [h, hd, he, hk, bl, bb, own_bs, XT.cmpL, own_sh0, own_t0, own_t1, own_t2, own_t3, own_t4, own_t5, own_r9_0, own_r10_0, own_r11_0, own_r12_0, own_r13_0, own_r14_0, own_r15_0, own_r16_0, own_r17_0, own_r18_0, own_r19_0, own_r20_0, own_r20_1, own_r21_0, own_r22_0, own_r23_0, own_x97, own_r24_0, own_r25_0, own_r26_0]
  refine hQ _ _ _ _ ?_
  unfold own_s21 own_g1 own_g2 own_g3 own_g4 own_g5 own_g6 own_g7
  refine ⟨(by (repeat refine LN_ou ?_ (by simp only [setA_len]; exact hA _)); exact hA), (by (repeat refine LNB_ou ?_ (by simp only [setA_len]; exact hB _)); exact hB), ?_⟩
  simp [h, bl, bb, own_bs]
set_option maxRecDepth 1000000 in
set_option maxHeartbeats 20000000 in
theorem own_u11 (hd : DG c2 c3 c4 P) (he : DG d2 d3 d4 R) (hk : DK K) (h : own_s21 s A L B c2 c3 c4 d2 d3 d4 P R K) (hQ : ∀ s' A' L' B', own_s23 s' A' L' B' c2 c3 c4 d2 d3 d4 P R K → Q none (put 0 [] s' A' L' B' [])) : M9 0 [.val (.ref 0), .unset] [] (put 0 [] s A L B []) Q := by
  unfold DG at hd he
  unfold DK at hk
  unfold own_s21 own_g1 own_g2 own_g3 own_g4 own_g5 own_g6 own_g7 at h
  obtain ⟨hA, hB, h⟩ := h
  have bl := bL hA
  have bb := bB hB
  rw [m9_0]
  simp (maxSteps := 10000000) [h, hd, he, hk, bl, bb, own_bs, XT.cmpL, own_sh0, own_t0, own_t1, own_t2, own_t3, own_t4, own_t5, own_r9_0, own_r10_0, own_r13_0, own_r14_0, own_r19_0, own_r20_0, own_r20_1, own_r21_0, own_r27_0, own_r28_0]
  refine hQ _ _ _ _ ?_
  unfold own_s23 own_g1 own_g2 own_g3 own_g4 own_g5 own_g6 own_g7
  refine ⟨(by (repeat refine LN_ou ?_ (by simp only [setA_len]; exact hA _)); exact hA), (by (repeat refine LNB_ou ?_ (by simp only [setA_len]; exact hB _)); exact hB), ?_⟩
  simp [h, bl, bb, own_bs]
set_option maxRecDepth 1000000 in
set_option maxHeartbeats 20000000 in
theorem own_u12 (hd : DG c2 c3 c4 P) (he : DG d2 d3 d4 R) (hk : DK K) (h : own_s23 s A L B c2 c3 c4 d2 d3 d4 P R K) (hQ : ∀ s' A' L' B', own_s25 s' A' L' B' c2 c3 c4 d2 d3 d4 P R K → Q none (put 0 [] s' A' L' B' [])) : M9 0 [.val (.ref 0), .unset] [] (put 0 [] s A L B []) Q := by
  unfold DG at hd he
  unfold DK at hk
  unfold own_s23 own_g1 own_g2 own_g3 own_g4 own_g5 own_g6 own_g7 at h
  obtain ⟨hA, hB, h⟩ := h
  have bl := bL hA
  have bb := bB hB
  rw [m9_0]
  simp (maxSteps := 10000000) [h, hd, he, hk, bl, bb, own_bs, XT.cmpL, own_sh0, own_t0, own_t1, own_t2, own_t3, own_t4, own_t5, own_r9_0, own_r10_0, own_r13_0, own_r14_0, own_r15_0, own_r16_0, own_r18_0, own_r19_0, own_r20_0, own_r20_1, own_r21_0, own_r27_0, own_r28_0]
  refine hQ _ _ _ _ ?_
  unfold own_s25 own_g1 own_g3 own_g4 own_g5 own_g6 own_g7
  refine ⟨(by (repeat refine LN_ou ?_ (by simp only [setA_len]; exact hA _)); exact hA), (by (repeat refine LNB_ou ?_ (by simp only [setA_len]; exact hB _)); exact hB), ?_⟩
  simp [h, bl, bb, own_bs]
set_option maxRecDepth 1000000 in
set_option maxHeartbeats 20000000 in
theorem own_u13 (hd : DG c2 c3 c4 P) (he : DG d2 d3 d4 R) (hk : DK K) (h : own_s25 s A L B c2 c3 c4 d2 d3 d4 P R K) (hQ : ∀ s' A' L' B', own_s27 s' A' L' B' c2 c3 c4 d2 d3 d4 P R K → Q none (put 0 [] s' A' L' B' [])) : M9 0 [.val (.ref 0), .unset] [] (put 0 [] s A L B []) Q := by
  unfold DG at hd he
  unfold DK at hk
  unfold own_s25 own_g1 own_g3 own_g4 own_g5 own_g6 own_g7 at h
  obtain ⟨hA, hB, h⟩ := h
  have bl := bL hA
  have bb := bB hB
  rw [m9_0]
  simp (maxSteps := 10000000) [h, hd, he, hk, bl, bb, own_bs, XT.cmpL, own_sh0, own_t0, own_t1, own_t2, own_t3, own_t4, own_t5, own_r8_0, own_r9_0, own_r10_0, own_r11_0, own_r12_0, own_r13_0, own_r14_0, own_r15_0, own_r16_0, own_r17_0, own_r18_0, own_r19_0, own_r20_0, own_r20_1, own_r21_0, own_r25_0, own_r26_0, own_r29_0, own_r30_0, own_r31_0, own_r32_0, own_r33_0, own_r34_0]
  refine hQ _ _ _ _ ?_
  unfold own_s27 own_g1 own_g4 own_g5 own_g6 own_g7 own_g8
  refine ⟨(by (repeat refine LN_ou ?_ (by simp only [setA_len]; exact hA _)); exact hA), (by (repeat refine LNB_ou ?_ (by simp only [setA_len]; exact hB _)); exact hB), ?_⟩
  simp [h, bl, bb, own_bs]
set_option maxRecDepth 1000000 in
set_option maxHeartbeats 20000000 in
theorem own_u14L (hd : DG c2 c3 c4 P) (he : DG d2 d3 d4 R) (hk : DK K) (hp : CL P) (h : own_s27 s A L B c2 c3 c4 d2 d3 d4 P R K) (hQ : ∀ s' A' L' B', own_s29L s' A' L' B' c2 c3 c4 d2 d3 d4 P R K → Q none (put 0 [] s' A' L' B' [])) : M9 0 [.val (.ref 0), .unset] [] (put 0 [] s A L B []) Q := by
  unfold DG at hd he
  unfold DK at hk
  unfold CL at hp
  unfold own_s27 own_g1 own_g4 own_g5 own_g6 own_g7 own_g8 at h
  obtain ⟨hA, hB, h⟩ := h
  have bl := bL hA
  have bb := bB hB
  rw [m9_0]
  simp (maxSteps := 10000000) [h, hd, he, hk, hp, bl, bb, own_bs, XT.cmpL, own_sh0, own_t0, own_t1, own_t2, own_t3, own_t4, own_t5, own_r9_0, own_r11_0, own_r12_0, own_r13_0, own_r14_0, own_r15_0, own_r16_0, own_r17_0, own_r18_0, own_r19_0, own_r20_0, own_r20_1, own_r21_0, own_r23_0, own_x97, own_r24_0, own_r25_0, own_r30_0, own_r35_0, own_r36_0, own_r37_0, own_r38_0, own_r39_0, own_r40_0, own_r41_0, own_r42_0, own_r43_0, own_r44_0, own_r45_0, own_r46_0, own_r47_0, own_r48_0]
  refine hQ _ _ _ _ ?_
  unfold own_s29L own_g1 own_g4 own_g5 own_g6 own_g7 own_g8
  refine ⟨(by (repeat refine LN_ou ?_ (by simp only [setA_len]; exact hA _)); exact hA), (by (repeat refine LNB_ou ?_ (by simp only [setA_len]; exact hB _)); exact hB), ?_⟩
  simp [h, bl, bb, own_bs]
set_option maxRecDepth 1000000 in
set_option maxHeartbeats 20000000 in
theorem own_u14S (hd : DG c2 c3 c4 P) (he : DG d2 d3 d4 R) (hk : DK K) (hp : CS P) (h : own_s27 s A L B c2 c3 c4 d2 d3 d4 P R K) (hQ : ∀ s' A' L' B', own_s29S s' A' L' B' c2 c3 c4 d2 d3 d4 P R K → Q none (put 0 [] s' A' L' B' [])) : M9 0 [.val (.ref 0), .unset] [] (put 0 [] s A L B []) Q := by
  unfold DG at hd he
  unfold DK at hk
  unfold CS at hp
  unfold own_s27 own_g1 own_g4 own_g5 own_g6 own_g7 own_g8 at h
  obtain ⟨hA, hB, h⟩ := h
  have bl := bL hA
  have bb := bB hB
  rw [m9_0]
  simp (maxSteps := 10000000) [h, hd, he, hk, hp, bl, bb, own_bs, XT.cmpL, own_sh0, own_t0, own_t1, own_t2, own_t3, own_t4, own_t5, own_r9_0, own_r11_0, own_r12_0, own_r13_0, own_r14_0, own_r15_0, own_r16_0, own_r17_0, own_r18_0, own_r19_0, own_r20_0, own_r20_1, own_r21_0, own_r23_0, own_x97, own_r24_0, own_r25_0, own_r30_0, own_r35_0, own_r36_0, own_r37_0, own_r38_0, own_r39_0, own_r40_0, own_r41_0, own_r42_0, own_r43_0, own_r44_0, own_r45_0, own_r46_0, own_r47_0, own_r48_0]
  refine hQ _ _ _ _ ?_
  unfold own_s29S own_g1 own_g4 own_g5 own_g6 own_g7 own_g8
  refine ⟨(by (repeat refine LN_ou ?_ (by simp only [setA_len]; exact hA _)); exact hA), (by (repeat refine LNB_ou ?_ (by simp only [setA_len]; exact hB _)); exact hB), ?_⟩
  simp [h, bl, bb, own_bs]
set_option maxRecDepth 1000000 in
set_option maxHeartbeats 20000000 in
theorem own_u15L (hd : DG c2 c3 c4 P) (he : DG d2 d3 d4 R) (hk : DK K) (hp : CL P) (h : own_s29L s A L B c2 c3 c4 d2 d3 d4 P R K) (hQ : ∀ s' A' L' B', own_s31L s' A' L' B' c2 c3 c4 d2 d3 d4 P R K → Q none (put 0 [] s' A' L' B' [])) : M9 0 [.val (.ref 0), .unset] [] (put 0 [] s A L B []) Q := by
  unfold DG at hd he
  unfold DK at hk
  unfold CL at hp
  unfold own_s29L own_g1 own_g4 own_g5 own_g6 own_g7 own_g8 at h
  obtain ⟨hA, hB, h⟩ := h
  have bl := bL hA
  have bb := bB hB
  rw [m9_0]
  simp (maxSteps := 10000000) [h, hd, he, hk, hp, bl, bb, own_bs, XT.cmpL, own_sh0, own_t0, own_t1, own_t2, own_t3, own_t4, own_t5, own_r8_0, own_r9_0, own_r35_0, own_r49_0]
  refine hQ _ _ _ _ ?_
  unfold own_s31L own_g1 own_g4 own_g5 own_g6 own_g7
  refine ⟨(by (repeat refine LN_ou ?_ (by simp only [setA_len]; exact hA _)); exact hA), (by (repeat refine LNB_ou ?_ (by simp only [setA_len]; exact hB _)); exact hB), ?_⟩
  simp [h, bl, bb, own_bs]
set_option maxRecDepth 1000000 in
set_option maxHeartbeats 20000000 in
theorem own_u15S (hd : DG c2 c3 c4 P) (he : DG d2 d3 d4 R) (hk : DK K) (hp : CS P) (h : own_s29S s A L B c2 c3 c4 d2 d3 d4 P R K) (hQ : ∀ s' A' L' B', own_s31S s' A' L' B' c2 c3 c4 d2 d3 d4 P R K → Q none (put 0 [] s' A' L' B' [])) : M9 0 [.val (.ref 0), .unset] [] (put 0 [] s A L B []) Q := by
  unfold DG at hd he
  unfold DK at hk
  unfold CS at hp
  unfold own_s29S own_g1 own_g4 own_g5 own_g6 own_g7 own_g8 at h
  obtain ⟨hA, hB, h⟩ := h
  have bl := bL hA
  have bb := bB hB
  rw [m9_0]
  simp (maxSteps := 10000000) [h, hd, he, hk, hp, bl, bb, own_bs, XT.cmpL, own_sh0, own_t0, own_t1, own_t2, own_t3, own_t4, own_t5, own_r8_0, own_r9_0, own_r35_0, own_r49_0]
  refine hQ _ _ _ _ ?_
  unfold own_s31S own_g1 own_g4 own_g5 own_g6 own_g7
  refine ⟨(by (repeat refine LN_ou ?_ (by simp only [setA_len]; exact hA _)); exact hA), (by (repeat refine LNB_ou ?_ (by simp only [setA_len]; exact hB _)); exact hB), ?_⟩
  simp [h, bl, bb, own_bs]
set_option maxRecDepth 1000000 in
set_option maxHeartbeats 20000000 in
theorem own_u16L (hd : DG c2 c3 c4 P) (he : DG d2 d3 d4 R) (hk : DK K) (hp : CL P) (h : own_s31L s A L B c2 c3 c4 d2 d3 d4 P R K) (hQ : ∀ s' A' L' B', own_s33L s' A' L' B' c2 c3 c4 d2 d3 d4 P R K → Q none (put 0 [] s' A' L' B' [])) : M9 0 [.val (.ref 0), .unset] [] (put 0 [] s A L B []) Q := by
  unfold DG at hd he
  unfold DK at hk
  unfold CL at hp
  unfold own_s31L own_g1 own_g4 own_g5 own_g6 own_g7 at h
  obtain ⟨hA, hB, h⟩ := h
  have bl := bL hA
  have bb := bB hB
  rw [m9_0]
  simp (maxSteps := 10000000) [h, hd, he, hk, hp, bl, bb, own_bs, XT.cmpL, own_sh0, own_t0, own_t1, own_t2, own_t3, own_t4, own_t5, own_r8_0, own_r9_0, own_r10_0, own_r11_0, own_r12_0, own_r13_0, own_r14_0, own_r15_0, own_r16_0, own_r17_0, own_r18_0, own_r19_0, own_r20_0, own_r20_1, own_r21_0, own_r25_0, own_r26_0, own_r29_0, own_r30_0, own_r31_0, own_r32_0, own_r33_0, own_r34_0]
  refine hQ _ _ _ _ ?_
  unfold own_s33L own_g1 own_g5 own_g6 own_g7 own_g8 own_g9
  refine ⟨(by (repeat refine LN_ou ?_ (by simp only [setA_len]; exact hA _)); exact hA), (by (repeat refine LNB_ou ?_ (by simp only [setA_len]; exact hB _)); exact hB), ?_⟩
  simp [h, bl, bb, own_bs]
set_option maxRecDepth 1000000 in
set_option maxHeartbeats 20000000 in
theorem own_u16S (hd : DG c2 c3 c4 P) (he : DG d2 d3 d4 R) (hk : DK K) (hp : CS P) (h : own_s31S s A L B c2 c3 c4 d2 d3 d4 P R K) (hQ : ∀ s' A' L' B', own_s33S s' A' L' B' c2 c3 c4 d2 d3 d4 P R K → Q none (put 0 [] s' A' L' B' [])) : M9 0 [.val (.ref 0), .unset] [] (put 0 [] s A L B []) Q := by
  unfold DG at hd he
  unfold DK at hk
  unfold CS at hp
  unfold own_s31S own_g1 own_g4 own_g5 own_g6 own_g7 at h
  obtain ⟨hA, hB, h⟩ := h
  have bl := bL hA
  have bb := bB hB
  rw [m9_0]
  simp (maxSteps := 10000000) [h, hd, he, hk, hp, bl, bb, own_bs, XT.cmpL, own_sh0, own_t0, own_t1, own_t2, own_t3, own_t4, own_t5, own_r8_0, own_r9_0, own_r10_0, own_r11_0, own_r12_0, own_r13_0, own_r14_0, own_r15_0, own_r16_0, own_r17_0, own_r18_0, own_r19_0, own_r20_0, own_r20_1, own_r21_0, own_r25_0, own_r26_0, own_r29_0, own_r30_0, own_r31_0, own_r32_0, own_r33_0, own_r34_0]
  refine hQ _ _ _ _ ?_
  unfold own_s33S own_g1 own_g5 own_g6 own_g7 own_g8 own_g9
  refine ⟨(by (repeat refine LN_ou ?_ (by simp only [setA_len]; exact hA _)); exact hA), (by (repeat refine LNB_ou ?_ (by simp only [setA_len]; exact hB _)); exact hB), ?_⟩
  simp [h, bl, bb, own_bs]
set_option maxRecDepth 1000000 in
set_option maxHeartbeats 20000000 in
theorem own_u17LL (hd : DG c2 c3 c4 P) (he : DG d2 d3 d4 R) (hk : DK K) (hp : CL P) (hr : CL R) (h : own_s33L s A L B c2 c3 c4 d2 d3 d4 P R K) (hQ : ∀ s' A' L' B', own_s35LL s' A' L' B' c2 c3 c4 d2 d3 d4 P R K → Q none (put 0 [] s' A' L' B' [])) : M9 0 [.val (.ref 0), .unset] [] (put 0 [] s A L B []) Q := by
  unfold DG at hd he
  unfold DK at hk
  unfold CL at hp
  unfold CL at hr
  unfold own_s33L own_g1 own_g5 own_g6 own_g7 own_g8 own_g9 at h
  obtain ⟨hA, hB, h⟩ := h
  have bl := bL hA
  have bb := bB hB
  rw [m9_0]
  simp (maxSteps := 10000000) [h, hd, he, hk, hp, hr, bl, bb, own_bs, XT.cmpL, own_sh0, own_t0, own_t1, own_t2, own_t3, own_t4, own_t5, own_r9_0, own_r11_0, own_r12_0, own_r13_0, own_r14_0, own_r15_0, own_r16_0, own_r17_0, own_r18_0, own_r19_0, own_r20_0, own_r20_1, own_r21_0, own_r23_0, own_x97, own_r24_0, own_r25_0, own_r30_0, own_r35_0, own_r36_0, own_r37_0, own_r38_0, own_r39_0, own_r40_0, own_r41_0, own_r42_0, own_r43_0, own_r44_0, own_r45_0, own_r46_0, own_r47_0, own_r48_0]
  refine hQ _ _ _ _ ?_
  unfold own_s35LL own_g5 own_g6 own_g7 own_g8
  refine ⟨(by (repeat refine LN_ou ?_ (by simp only [setA_len]; exact hA _)); exact hA), (by (repeat refine LNB_ou ?_ (by simp only [setA_len]; exact hB _)); exact hB), ?_⟩
  simp [h, bl, bb, own_bs]
set_option maxRecDepth 1000000 in
set_option maxHeartbeats 20000000 in
theorem own_u17LS (hd : DG c2 c3 c4 P) (he : DG d2 d3 d4 R) (hk : DK K) (hp : CL P) (hr : CS R) (h : own_s33L s A L B c2 c3 c4 d2 d3 d4 P R K) (hQ : ∀ s' A' L' B', own_s35LS s' A' L' B' c2 c3 c4 d2 d3 d4 P R K → Q none (put 0 [] s' A' L' B' [])) : M9 0 [.val (.ref 0), .unset] [] (put 0 [] s A L B []) Q := by
  unfold DG at hd he
  unfold DK at hk
  unfold CL at hp
  unfold CS at hr
  unfold own_s33L own_g1 own_g5 own_g6 own_g7 own_g8 own_g9 at h
  obtain ⟨hA, hB, h⟩ := h
  have bl := bL hA
  have bb := bB hB
  rw [m9_0]
  simp (maxSteps := 10000000) [h, hd, he, hk, hp, hr, bl, bb, own_bs, XT.cmpL, own_sh0, own_t0, own_t1, own_t2, own_t3, own_t4, own_t5, own_r9_0, own_r11_0, own_r12_0, own_r13_0, own_r14_0, own_r15_0, own_r16_0, own_r17_0, own_r18_0, own_r19_0, own_r20_0, own_r20_1, own_r21_0, own_r23_0, own_x97, own_r24_0, own_r25_0, own_r30_0, own_r35_0, own_r36_0, own_r37_0, own_r38_0, own_r39_0, own_r40_0, own_r41_0, own_r42_0, own_r43_0, own_r44_0, own_r45_0, own_r46_0, own_r47_0, own_r48_0]
  refine hQ _ _ _ _ ?_
  unfold own_s35LS own_g5 own_g6 own_g7 own_g8
  refine ⟨(by (repeat refine LN_ou ?_ (by simp only [setA_len]; exact hA _)); exact hA), (by (repeat refine LNB_ou ?_ (by simp only [setA_len]; exact hB _)); exact hB), ?_⟩
  simp [h, bl, bb, own_bs]
set_option maxRecDepth 1000000 in
set_option maxHeartbeats 20000000 in
theorem own_u17SL (hd : DG c2 c3 c4 P) (he : DG d2 d3 d4 R) (hk : DK K) (hp : CS P) (hr : CL R) (h : own_s33S s A L B c2 c3 c4 d2 d3 d4 P R K) (hQ : ∀ s' A' L' B', own_s35SL s' A' L' B' c2 c3 c4 d2 d3 d4 P R K → Q none (put 0 [] s' A' L' B' [])) : M9 0 [.val (.ref 0), .unset] [] (put 0 [] s A L B []) Q := by
  unfold DG at hd he
  unfold DK at hk
  unfold CS at hp
  unfold CL at hr
  unfold own_s33S own_g1 own_g5 own_g6 own_g7 own_g8 own_g9 at h
  obtain ⟨hA, hB, h⟩ := h
  have bl := bL hA
  have bb := bB hB
  rw [m9_0]
  simp (maxSteps := 10000000) [h, hd, he, hk, hp, hr, bl, bb, own_bs, XT.cmpL, own_sh0, own_t0, own_t1, own_t2, own_t3, own_t4, own_t5, own_r9_0, own_r11_0, own_r12_0, own_r13_0, own_r14_0, own_r15_0, own_r16_0, own_r17_0, own_r18_0, own_r19_0, own_r20_0, own_r20_1, own_r21_0, own_r23_0, own_x97, own_r24_0, own_r25_0, own_r30_0, own_r35_0, own_r36_0, own_r37_0, own_r38_0, own_r39_0, own_r40_0, own_r41_0, own_r42_0, own_r43_0, own_r44_0, own_r45_0, own_r46_0, own_r47_0, own_r48_0]
  refine hQ _ _ _ _ ?_
  unfold own_s35SL own_g5 own_g6 own_g7 own_g8
  refine ⟨(by (repeat refine LN_ou ?_ (by simp only [setA_len]; exact hA _)); exact hA), (by (repeat refine LNB_ou ?_ (by simp only [setA_len]; exact hB _)); exact hB), ?_⟩
  simp [h, bl, bb, own_bs]
set_option maxRecDepth 1000000 in
set_option maxHeartbeats 20000000 in
theorem own_u17SS (hd : DG c2 c3 c4 P) (he : DG d2 d3 d4 R) (hk : DK K) (hp : CS P) (hr : CS R) (h : own_s33S s A L B c2 c3 c4 d2 d3 d4 P R K) (hQ : ∀ s' A' L' B', own_s35SS s' A' L' B' c2 c3 c4 d2 d3 d4 P R K → Q none (put 0 [] s' A' L' B' [])) : M9 0 [.val (.ref 0), .unset] [] (put 0 [] s A L B []) Q := by
  unfold DG at hd he
  unfold DK at hk
  unfold CS at hp
  unfold CS at hr
  unfold own_s33S own_g1 own_g5 own_g6 own_g7 own_g8 own_g9 at h
  obtain ⟨hA, hB, h⟩ := h
  have bl := bL hA
  have bb := bB hB
  rw [m9_0]
  simp (maxSteps := 10000000) [h, hd, he, hk, hp, hr, bl, bb, own_bs, XT.cmpL, own_sh0, own_t0, own_t1, own_t2, own_t3, own_t4, own_t5, own_r9_0, own_r11_0, own_r12_0, own_r13_0, own_r14_0, own_r15_0, own_r16_0, own_r17_0, own_r18_0, own_r19_0, own_r20_0, own_r20_1, own_r21_0, own_r23_0, own_x97, own_r24_0, own_r25_0, own_r30_0, own_r35_0, own_r36_0, own_r37_0, own_r38_0, own_r39_0, own_r40_0, own_r41_0, own_r42_0, own_r43_0, own_r44_0, own_r45_0, own_r46_0, own_r47_0, own_r48_0]
  refine hQ _ _ _ _ ?_
  unfold own_s35SS own_g5 own_g6 own_g7 own_g8
  refine ⟨(by (repeat refine LN_ou ?_ (by simp only [setA_len]; exact hA _)); exact hA), (by (repeat refine LNB_ou ?_ (by simp only [setA_len]; exact hB _)); exact hB), ?_⟩
  simp [h, bl, bb, own_bs]
set_option maxRecDepth 1000000 in
set_option maxHeartbeats 20000000 in
theorem own_u18LL (hd : DG c2 c3 c4 P) (he : DG d2 d3 d4 R) (hk : DK K) (hp : CL P) (hr : CL R) (h : own_s35LL s A L B c2 c3 c4 d2 d3 d4 P R K) (hQ : ∀ s' A' L' B', own_s37LL s' A' L' B' c2 c3 c4 d2 d3 d4 P R K → Q none (put 0 [] s' A' L' B' [])) : M9 0 [.val (.ref 0), .unset] [] (put 0 [] s A L B []) Q := by
  unfold DG at hd he
  unfold DK at hk
  unfold CL at hp
  unfold CL at hr
  unfold own_s35LL own_g5 own_g6 own_g7 own_g8 at h
  obtain ⟨hA, hB, h⟩ := h
  have bl := bL hA
  have bb := bB hB
  rw [m9_0]
  simp (maxSteps := 10000000) [h, hd, he, hk, hp, hr, bl, bb, own_bs, XT.cmpL, own_sh0, own_t0, own_t1, own_t2, own_t3, own_t4, own_t5, own_r8_0, own_r9_0, own_r35_0, own_r49_0]
  refine hQ _ _ _ _ ?_
  unfold own_s37LL own_g5 own_g6 own_g7
  refine ⟨(by (repeat refine LN_ou ?_ (by simp only [setA_len]; exact hA _)); exact hA), (by (repeat refine LNB_ou ?_ (by simp only [setA_len]; exact hB _)); exact hB), ?_⟩
  simp [h, bl, bb, own_bs]
set_option maxRecDepth 1000000 in
set_option maxHeartbeats 20000000 in
theorem own_u18LS (hd : DG c2 c3 c4 P) (he : DG d2 d3 d4 R) (hk : DK K) (hp : CL P) (hr : CS R) (h : own_s35LS s A L B c2 c3 c4 d2 d3 d4 P R K) (hQ : ∀ s' A' L' B', own_s37LS s' A' L' B' c2 c3 c4 d2 d3 d4 P R K → Q none (put 0 [] s' A' L' B' [])) : M9 0 [.val (.ref 0), .unset] [] (put 0 [] s A L B []) Q := by
  unfold DG at hd he
  unfold DK at hk
  unfold CL at hp
  unfold CS at hr
  unfold own_s35LS own_g5 own_g6 own_g7 own_g8 at h
  obtain ⟨hA, hB, h⟩ := h
  have bl := bL hA
  have bb := bB hB
  rw [m9_0]
  simp (maxSteps := 10000000) [h, hd, he, hk, hp, hr, bl, bb, own_bs, XT.cmpL, own_sh0, own_t0, own_t1, own_t2, own_t3, own_t4, own_t5, own_r8_0, own_r9_0, own_r35_0, own_r49_0]
  refine hQ _ _ _ _ ?_
  unfold own_s37LS own_g5 own_g6 own_g7
  refine ⟨(by (repeat refine LN_ou ?_ (by simp only [setA_len]; exact hA _)); exact hA), (by (repeat refine LNB_ou ?_ (by simp only [setA_len]; exact hB _)); exact hB), ?_⟩
  simp [h, bl, bb, own_bs]
set_option maxRecDepth 1000000 in
set_option maxHeartbeats 20000000 in
theorem own_u18SL (hd : DG c2 c3 c4 P) (he : DG d2 d3 d4 R) (hk : DK K) (hp : CS P) (hr : CL R) (h : own_s35SL s A L B c2 c3 c4 d2 d3 d4 P R K) (hQ : ∀ s' A' L' B', own_s37SL s' A' L' B' c2 c3 c4 d2 d3 d4 P R K → Q none (put 0 [] s' A' L' B' [])) : M9 0 [.val (.ref 0), .unset] [] (put 0 [] s A L B []) Q := by
  unfold DG at hd he
  unfold DK at hk
  unfold CS at hp
  unfold CL at hr
  unfold own_s35SL own_g5 own_g6 own_g7 own_g8 at h
  obtain ⟨hA, hB, h⟩ := h
  have bl := bL hA
  have bb := bB hB
  rw [m9_0]
  simp (maxSteps := 10000000) [h, hd, he, hk, hp, hr, bl, bb, own_bs, XT.cmpL, own_sh0, own_t0, own_t1, own_t2, own_t3, own_t4, own_t5, own_r8_0, own_r9_0, own_r35_0, own_r49_0]
  refine hQ _ _ _ _ ?_
  unfold own_s37SL own_g5 own_g6 own_g7
  refine ⟨(by (repeat refine LN_ou ?_ (by simp only [setA_len]; exact hA _)); exact hA), (by (repeat refine LNB_ou ?_ (by simp only [setA_len]; exact hB _)); exact hB), ?_⟩
  simp [h, bl, bb, own_bs]
set_option maxRecDepth 1000000 in
set_option maxHeartbeats 20000000 in
theorem own_u18SS (hd : DG c2 c3 c4 P) (he : DG d2 d3 d4 R) (hk : DK K) (hp : CS P) (hr : CS R) (h : own_s35SS s A L B c2 c3 c4 d2 d3 d4 P R K) (hQ : ∀ s' A' L' B', own_s37SS s' A' L' B' c2 c3 c4 d2 d3 d4 P R K → Q none (put 0 [] s' A' L' B' [])) : M9 0 [.val (.ref 0), .unset] [] (put 0 [] s A L B []) Q := by
  unfold DG at hd he
  unfold DK at hk
  unfold CS at hp
  unfold CS at hr
  unfold own_s35SS own_g5 own_g6 own_g7 own_g8 at h
  obtain ⟨hA, hB, h⟩ := h
  have bl := bL hA
  have bb := bB hB
  rw [m9_0]
  simp (maxSteps := 10000000) [h, hd, he, hk, hp, hr, bl, bb, own_bs, XT.cmpL, own_sh0, own_t0, own_t1, own_t2, own_t3, own_t4, own_t5, own_r8_0, own_r9_0, own_r35_0, own_r49_0]
  refine hQ _ _ _ _ ?_
  unfold own_s37SS own_g5 own_g6 own_g7
  refine ⟨(by (repeat refine LN_ou ?_ (by simp only [setA_len]; exact hA _)); exact hA), (by (repeat refine LNB_ou ?_ (by simp only [setA_len]; exact hB _)); exact hB), ?_⟩
  simp [h, bl, bb, own_bs]
set_option maxRecDepth 1000000 in
set_option maxHeartbeats 20000000 in
theorem own_u19LL (hd : DG c2 c3 c4 P) (he : DG d2 d3 d4 R) (hk : DK K) (hp : CL P) (hr : CL R) (h : own_s37LL s A L B c2 c3 c4 d2 d3 d4 P R K) (hQ : ∀ s' A' L' B', own_s39LL s' A' L' B' c2 c3 c4 d2 d3 d4 P R K → Q none (put 0 [] s' A' L' B' [])) : M9 0 [.val (.ref 0), .unset] [] (put 0 [] s A L B []) Q := by
  unfold DG at hd he
  unfold DK at hk
  unfold CL at hp
  unfold CL at hr
  unfold own_s37LL own_g5 own_g6 own_g7 at h
  obtain ⟨hA, hB, h⟩ := h
  have bl := bL hA
  have bb := bB hB
  rw [m9_0]
  simp (maxSteps := 10000000) [h, hd, he, hk, hp, hr, bl, bb, own_bs, XT.cmpL, own_sh0, own_t0, own_t1, own_t2, own_t3, own_t4, own_t5, own_r9_0, own_r10_0, own_r11_0, own_r12_0, own_r13_0, own_r14_0, own_r15_0, own_r16_0, own_r17_0, own_r18_0, own_r19_0, own_r20_0, own_r20_1, own_r21_0, own_r23_0, own_x97, own_r24_0, own_r25_0, own_r30_0, own_r42_0, own_r44_0, own_r46_0, own_r47_0, own_r48_0, own_r50_0]
  refine hQ _ _ _ _ ?_
  unfold own_s39LL own_g6 own_g7
  refine ⟨(by (repeat refine LN_ou ?_ (by simp only [setA_len]; exact hA _)); exact hA), (by (repeat refine LNB_ou ?_ (by simp only [setA_len]; exact hB _)); exact hB), ?_⟩
  simp [h, bl, bb, own_bs]
set_option maxRecDepth 1000000 in
set_option maxHeartbeats 20000000 in
theorem own_u19LS (hd : DG c2 c3 c4 P) (he : DG d2 d3 d4 R) (hk : DK K) (hp : CL P) (hr : CS R) (h : own_s37LS s A L B c2 c3 c4 d2 d3 d4 P R K) (hQ : ∀ s' A' L' B', own_s39LS s' A' L' B' c2 c3 c4 d2 d3 d4 P R K → Q none (put 0 [] s' A' L' B' [])) : M9 0 [.val (.ref 0), .unset] [] (put 0 [] s A L B []) Q := by
  unfold DG at hd he
  unfold DK at hk
  unfold CL at hp
  unfold CS at hr
  unfold own_s37LS own_g5 own_g6 own_g7 at h
  obtain ⟨hA, hB, h⟩ := h
  have bl := bL hA
  have bb := bB hB
  rw [m9_0]
  simp (maxSteps := 10000000) [h, hd, he, hk, hp, hr, bl, bb, own_bs, XT.cmpL, own_sh0, own_t0, own_t1, own_t2, own_t3, own_t4, own_t5, own_r9_0, own_r10_0, own_r11_0, own_r12_0, own_r13_0, own_r14_0, own_r15_0, own_r16_0, own_r17_0, own_r18_0, own_r19_0, own_r20_0, own_r20_1, own_r21_0, own_r23_0, own_x97, own_r24_0, own_r25_0, own_r30_0, own_r42_0, own_r44_0, own_r46_0, own_r47_0, own_r48_0, own_r50_0]
  refine hQ _ _ _ _ ?_
  unfold own_s39LS own_g6 own_g7
  refine ⟨(by (repeat refine LN_ou ?_ (by simp only [setA_len]; exact hA _)); exact hA), (by (repeat refine LNB_ou ?_ (by simp only [setA_len]; exact hB _)); exact hB), ?_⟩
  simp [h, bl, bb, own_bs]
set_option maxRecDepth 1000000 in
set_option maxHeartbeats 20000000 in
theorem own_u19SL (hd : DG c2 c3 c4 P) (he : DG d2 d3 d4 R) (hk : DK K) (hp : CS P) (hr : CL R) (h : own_s37SL s A L B c2 c3 c4 d2 d3 d4 P R K) (hQ : ∀ s' A' L' B', own_s39SL s' A' L' B' c2 c3 c4 d2 d3 d4 P R K → Q none (put 0 [] s' A' L' B' [])) : M9 0 [.val (.ref 0), .unset] [] (put 0 [] s A L B []) Q := by
  unfold DG at hd he
  unfold DK at hk
  unfold CS at hp
  unfold CL at hr
  unfold own_s37SL own_g5 own_g6 own_g7 at h
  obtain ⟨hA, hB, h⟩ := h
  have bl := bL hA
  have bb := bB hB
  rw [m9_0]
  simp (maxSteps := 10000000) [h, hd, he, hk, hp, hr, bl, bb, own_bs, XT.cmpL, own_sh0, own_t0, own_t1, own_t2, own_t3, own_t4, own_t5, own_r9_0, own_r10_0, own_r11_0, own_r12_0, own_r13_0, own_r14_0, own_r15_0, own_r16_0, own_r17_0, own_r18_0, own_r19_0, own_r20_0, own_r20_1, own_r21_0, own_r23_0, own_x97, own_r24_0, own_r25_0, own_r30_0, own_r42_0, own_r44_0, own_r46_0, own_r47_0, own_r48_0, own_r50_0]
  refine hQ _ _ _ _ ?_
  unfold own_s39SL own_g6 own_g7
  refine ⟨(by (repeat refine LN_ou ?_ (by simp only [setA_len]; exact hA _)); exact hA), (by (repeat refine LNB_ou ?_ (by simp only [setA_len]; exact hB _)); exact hB), ?_⟩
  simp [h, bl, bb, own_bs]
set_option maxRecDepth 1000000 in
set_option maxHeartbeats 20000000 in
theorem own_u19SS (hd : DG c2 c3 c4 P) (he : DG d2 d3 d4 R) (hk : DK K) (hp : CS P) (hr : CS R) (h : own_s37SS s A L B c2 c3 c4 d2 d3 d4 P R K) (hQ : ∀ s' A' L' B', own_s39SS s' A' L' B' c2 c3 c4 d2 d3 d4 P R K → Q none (put 0 [] s' A' L' B' [])) : M9 0 [.val (.ref 0), .unset] [] (put 0 [] s A L B []) Q := by
  unfold DG at hd he
  unfold DK at hk
  unfold CS at hp
  unfold CS at hr
  unfold own_s37SS own_g5 own_g6 own_g7 at h
  obtain ⟨hA, hB, h⟩ := h
  have bl := bL hA
  have bb := bB hB
  rw [m9_0]
  simp (maxSteps := 10000000) [h, hd, he, hk, hp, hr, bl, bb, own_bs, XT.cmpL, own_sh0, own_t0, own_t1, own_t2, own_t3, own_t4, own_t5, own_r9_0, own_r10_0, own_r11_0, own_r12_0, own_r13_0, own_r14_0, own_r15_0, own_r16_0, own_r17_0, own_r18_0, own_r19_0, own_r20_0, own_r20_1, own_r21_0, own_r23_0, own_x97, own_r24_0, own_r25_0, own_r30_0, own_r42_0, own_r44_0, own_r46_0, own_r47_0, own_r48_0, own_r50_0]
  refine hQ _ _ _ _ ?_
  unfold own_s39SS own_g6 own_g7
  refine ⟨(by (repeat refine LN_ou ?_ (by simp only [setA_len]; exact hA _)); exact hA), (by (repeat refine LNB_ou ?_ (by simp only [setA_len]; exact hB _)); exact hB), ?_⟩
  simp [h, bl, bb, own_bs]
set_option maxRecDepth 1000000 in
set_option maxHeartbeats 20000000 in
theorem own_u20LL (hd : DG c2 c3 c4 P) (he : DG d2 d3 d4 R) (hk : DK K) (hp : CL P) (hr : CL R) (h : own_s39LL s A L B c2 c3 c4 d2 d3 d4 P R K) (hQ : ∀ s' A' L' B', own_s41LL s' A' L' B' c2 c3 c4 d2 d3 d4 P R K → Q none (put 0 [] s' A' L' B' [])) : M9 0 [.val (.ref 0), .unset] [] (put 0 [] s A L B []) Q := by
  unfold DG at hd he
  unfold DK at hk
  unfold CL at hp
  unfold CL at hr
  unfold own_s39LL own_g6 own_g7 at h
  obtain ⟨hA, hB, h⟩ := h
  have bl := bL hA
  have bb := bB hB
  rw [m9_0]
  simp (maxSteps := 10000000) [h, hd, he, hk, hp, hr, bl, bb, own_bs, XT.cmpL, own_sh0, own_t0, own_t1, own_t2, own_t3, own_t4, own_t5, own_r9_0, own_r10_0, own_r11_0, own_r12_0, own_r13_0, own_r14_0, own_r15_0, own_r16_0, own_r17_0, own_r18_0, own_r19_0, own_r20_0, own_r20_1, own_r21_0, own_r23_0, own_x97, own_r24_0, own_r25_0, own_r30_0, own_r42_0, own_r44_0, own_r46_0, own_r47_0, own_r48_0, own_r50_0, own_r51_0]
  refine hQ _ _ _ _ ?_
  unfold own_s41LL own_g7 own_g10
  refine ⟨(by (repeat refine LN_ou ?_ (by simp only [setA_len]; exact hA _)); exact hA), (by (repeat refine LNB_ou ?_ (by simp only [setA_len]; exact hB _)); exact hB), ?_⟩
  simp [h, bl, bb, own_bs]
set_option maxRecDepth 1000000 in
set_option maxHeartbeats 20000000 in
theorem own_u20LS (hd : DG c2 c3 c4 P) (he : DG d2 d3 d4 R) (hk : DK K) (hp : CL P) (hr : CS R) (h : own_s39LS s A L B c2 c3 c4 d2 d3 d4 P R K) (hQ : ∀ s' A' L' B', own_s41LS s' A' L' B' c2 c3 c4 d2 d3 d4 P R K → Q none (put 0 [] s' A' L' B' [])) : M9 0 [.val (.ref 0), .unset] [] (put 0 [] s A L B []) Q := by
  unfold DG at hd he
  unfold DK at hk
  unfold CL at hp
  unfold CS at hr
  unfold own_s39LS own_g6 own_g7 at h
  obtain ⟨hA, hB, h⟩ := h
  have bl := bL hA
  have bb := bB hB
  rw [m9_0]
  simp (maxSteps := 10000000) [h, hd, he, hk, hp, hr, bl, bb, own_bs, XT.cmpL, own_sh0, own_t0, own_t1, own_t2, own_t3, own_t4, own_t5, own_r9_0, own_r10_0, own_r11_0, own_r12_0, own_r13_0, own_r14_0, own_r15_0, own_r16_0, own_r17_0, own_r18_0, own_r19_0, own_r20_0, own_r20_1, own_r21_0, own_r23_0, own_x97, own_r24_0, own_r25_0, own_r30_0, own_r42_0, own_r44_0, own_r46_0, own_r47_0, own_r48_0, own_r50_0, own_r51_0]
  refine hQ _ _ _ _ ?_
  unfold own_s41LS own_g7 own_g10
  refine ⟨(by (repeat refine LN_ou ?_ (by simp only [setA_len]; exact hA _)); exact hA), (by (repeat refine LNB_ou ?_ (by simp only [setA_len]; exact hB _)); exact hB), ?_⟩
  simp [h, bl, bb, own_bs]
set_option maxRecDepth 1000000 in
set_option maxHeartbeats 20000000 in
theorem own_u20SL (hd : DG c2 c3 c4 P) (he : DG d2 d3 d4 R) (hk : DK K) (hp : CS P) (hr : CL R) (h : own_s39SL s A L B c2 c3 c4 d2 d3 d4 P R K) (hQ : ∀ s' A' L' B', own_s41SL s' A' L' B' c2 c3 c4 d2 d3 d4 P R K → Q none (put 0 [] s' A' L' B' [])) : M9 0 [.val (.ref 0), .unset] [] (put 0 [] s A L B []) Q := by
  unfold DG at hd he
  unfold DK at hk
  unfold CS at hp
  unfold CL at hr
  unfold own_s39SL own_g6 own_g7 at h
  obtain ⟨hA, hB, h⟩ := h
  have bl := bL hA
  have bb := bB hB
  rw [m9_0]
  simp (maxSteps := 10000000) [h, hd, he, hk, hp, hr, bl, bb, own_bs, XT.cmpL, own_sh0, own_t0, own_t1, own_t2, own_t3, own_t4, own_t5, own_r9_0, own_r10_0, own_r11_0, own_r12_0, own_r13_0, own_r14_0, own_r15_0, own_r16_0, own_r17_0, own_r18_0, own_r19_0, own_r20_0, own_r20_1, own_r21_0, own_r23_0, own_x97, own_r24_0, own_r25_0, own_r30_0, own_r42_0, own_r44_0, own_r46_0, own_r47_0, own_r48_0, own_r50_0, own_r51_0]
  refine hQ _ _ _ _ ?_
  unfold own_s41SL own_g7 own_g10
  refine ⟨(by (repeat refine LN_ou ?_ (by simp only [setA_len]; exact hA _)); exact hA), (by (repeat refine LNB_ou ?_ (by simp only [setA_len]; exact hB _)); exact hB), ?_⟩
  simp [h, bl, bb, own_bs]
set_option maxRecDepth 1000000 in
set_option maxHeartbeats 20000000 in
theorem own_u20SS (hd : DG c2 c3 c4 P) (he : DG d2 d3 d4 R) (hk : DK K) (hp : CS P) (hr : CS R) (h : own_s39SS s A L B c2 c3 c4 d2 d3 d4 P R K) (hQ : ∀ s' A' L' B', own_s41SS s' A' L' B' c2 c3 c4 d2 d3 d4 P R K → Q none (put 0 [] s' A' L' B' [])) : M9 0 [.val (.ref 0), .unset] [] (put 0 [] s A L B []) Q := by
  unfold DG at hd he
  unfold DK at hk
  unfold CS at hp
  unfold CS at hr
  unfold own_s39SS own_g6 own_g7 at h
  obtain ⟨hA, hB, h⟩ := h
  have bl := bL hA
  have bb := bB hB
  rw [m9_0]
  simp (maxSteps := 10000000) [h, hd, he, hk, hp, hr, bl, bb, own_bs, XT.cmpL, own_sh0, own_t0, own_t1, own_t2, own_t3, own_t4, own_t5, own_r9_0, own_r10_0, own_r11_0, own_r12_0, own_r13_0, own_r14_0, own_r15_0, own_r16_0, own_r17_0, own_r18_0, own_r19_0, own_r20_0, own_r20_1, own_r21_0, own_r23_0, own_x97, own_r24_0, own_r25_0, own_r30_0, own_r42_0, own_r44_0, own_r46_0, own_r47_0, own_r48_0, own_r50_0, own_r51_0]
  refine hQ _ _ _ _ ?_
  unfold own_s41SS own_g7 own_g10
  refine ⟨(by (repeat refine LN_ou ?_ (by simp only [setA_len]; exact hA _)); exact hA), (by (repeat refine LNB_ou ?_ (by simp only [setA_len]; exact hB _)); exact hB), ?_⟩
  simp [h, bl, bb, own_bs]
set_option maxRecDepth 1000000 in
set_option maxHeartbeats 20000000 in
theorem own_u21LL (hd : DG c2 c3 c4 P) (he : DG d2 d3 d4 R) (hk : DK K) (hp : CL P) (hr : CL R) (h : own_s41LL s A L B c2 c3 c4 d2 d3 d4 P R K) (hQ : ∀ s' A' L' B', own_s43LL s' A' L' B' c2 c3 c4 d2 d3 d4 P R K → Q none (put 0 [] s' A' L' B' [])) : M9 0 [.val (.ref 0), .unset] [] (put 0 [] s A L B []) Q := by
  unfold DG at hd he
  unfold DK at hk
  unfold CL at hp
  unfold CL at hr
  unfold own_s41LL own_g7 own_g10 at h
  obtain ⟨hA, hB, h⟩ := h
  have bl := bL hA
  have bb := bB hB
  rw [m9_0]
  simp (maxSteps := 10000000) [h, hd, he, hk, hp, hr, bl, bb, own_bs, XT.cmpL, own_sh0, own_t0, own_t1, own_t2, own_t3, own_t4, own_t5, own_r9_0, own_r10_0, own_r11_0, own_r12_0, own_r13_0, own_r14_0, own_r15_0, own_r16_0, own_r17_0, own_r18_0, own_r19_0, own_r20_0, own_r20_1, own_r21_0, own_r23_0, own_x97, own_r24_0, own_r25_0, own_r30_0, own_r42_0, own_r45_0, own_r46_0, own_r48_0, own_r52_0]
  refine hQ _ _ _ _ ?_
  unfold own_s43LL own_g10
  refine ⟨(by (repeat refine LN_ou ?_ (by simp only [setA_len]; exact hA _)); exact hA), (by (repeat refine LNB_ou ?_ (by simp only [setA_len]; exact hB _)); exact hB), ?_⟩
  simp [h, bl, bb, own_bs]
set_option maxRecDepth 1000000 in
set_option maxHeartbeats 20000000 in
theorem own_u21LS (hd : DG c2 c3 c4 P) (he : DG d2 d3 d4 R) (hk : DK K) (hp : CL P) (hr : CS R) (h : own_s41LS s A L B c2 c3 c4 d2 d3 d4 P R K) (hQ : ∀ s' A' L' B', own_s43LS s' A' L' B' c2 c3 c4 d2 d3 d4 P R K → Q none (put 0 [] s' A' L' B' [])) : M9 0 [.val (.ref 0), .unset] [] (put 0 [] s A L B []) Q := by
  unfold DG at hd he
  unfold DK at hk
  unfold CL at hp
  unfold CS at hr
  unfold own_s41LS own_g7 own_g10 at h
  obtain ⟨hA, hB, h⟩ := h
  have bl := bL hA
  have bb := bB hB
  rw [m9_0]
  simp (maxSteps := 10000000) [h, hd, he, hk, hp, hr, bl, bb, own_bs, XT.cmpL, own_sh0, own_t0, own_t1, own_t2, own_t3, own_t4, own_t5, own_r9_0, own_r10_0, own_r11_0, own_r12_0, own_r13_0, own_r14_0, own_r15_0, own_r16_0, own_r17_0, own_r18_0, own_r19_0, own_r20_0, own_r20_1, own_r21_0, own_r23_0, own_x97, own_r24_0, own_r25_0, own_r30_0, own_r42_0, own_r45_0, own_r46_0, own_r48_0, own_r52_0]
  refine hQ _ _ _ _ ?_
  unfold own_s43LS own_g10
  refine ⟨(by (repeat refine LN_ou ?_ (by simp only [setA_len]; exact hA _)); exact hA), (by (repeat refine LNB_ou ?_ (by simp only [setA_len]; exact hB _)); exact hB), ?_⟩
  simp [h, bl, bb, own_bs]
set_option maxRecDepth 1000000 in
set_option maxHeartbeats 20000000 in
theorem own_u21SL (hd : DG c2 c3 c4 P) (he : DG d2 d3 d4 R) (hk : DK K) (hp : CS P) (hr : CL R) (h : own_s41SL s A L B c2 c3 c4 d2 d3 d4 P R K) (hQ : ∀ s' A' L' B', own_s43SL s' A' L' B' c2 c3 c4 d2 d3 d4 P R K → Q none (put 0 [] s' A' L' B' [])) : M9 0 [.val (.ref 0), .unset] [] (put 0 [] s A L B []) Q := by
  unfold DG at hd he
  unfold DK at hk
  unfold CS at hp
  unfold CL at hr
  unfold own_s41SL own_g7 own_g10 at h
  obtain ⟨hA, hB, h⟩ := h
  have bl := bL hA
  have bb := bB hB
  rw [m9_0]
  simp (maxSteps := 10000000) [h, hd, he, hk, hp, hr, bl, bb, own_bs, XT.cmpL, own_sh0, own_t0, own_t1, own_t2, own_t3, own_t4, own_t5, own_r9_0, own_r10_0, own_r11_0, own_r12_0, own_r13_0, own_r14_0, own_r15_0, own_r16_0, own_r17_0, own_r18_0, own_r19_0, own_r20_0, own_r20_1, own_r21_0, own_r23_0, own_x97, own_r24_0, own_r25_0, own_r30_0, own_r42_0, own_r45_0, own_r46_0, own_r48_0, own_r52_0]
  refine hQ _ _ _ _ ?_
  unfold own_s43SL own_g10
  refine ⟨(by (repeat refine LN_ou ?_ (by simp only [setA_len]; exact hA _)); exact hA), (by (repeat refine LNB_ou ?_ (by simp only [setA_len]; exact hB _)); exact hB), ?_⟩
  simp [h, bl, bb, own_bs]
set_option maxRecDepth 1000000 in
set_option maxHeartbeats 20000000 in
theorem own_u21SS (hd : DG c2 c3 c4 P) (he : DG d2 d3 d4 R) (hk : DK K) (hp : CS P) (hr : CS R) (h : own_s41SS s A L B c2 c3 c4 d2 d3 d4 P R K) (hQ : ∀ s' A' L' B', own_s43SS s' A' L' B' c2 c3 c4 d2 d3 d4 P R K → Q none (put 0 [] s' A' L' B' [])) : M9 0 [.val (.ref 0), .unset] [] (put 0 [] s A L B []) Q := by
  unfold DG at hd he
  unfold DK at hk
  unfold CS at hp
  unfold CS at hr
  unfold own_s41SS own_g7 own_g10 at h
  obtain ⟨hA, hB, h⟩ := h
  have bl := bL hA
  have bb := bB hB
  rw [m9_0]
  simp (maxSteps := 10000000) [h, hd, he, hk, hp, hr, bl, bb, own_bs, XT.cmpL, own_sh0, own_t0, own_t1, own_t2, own_t3, own_t4, own_t5, own_r9_0, own_r10_0, own_r11_0, own_r12_0, own_r13_0, own_r14_0, own_r15_0, own_r16_0, own_r17_0, own_r18_0, own_r19_0, own_r20_0, own_r20_1, own_r21_0, own_r23_0, own_x97, own_r24_0, own_r25_0, own_r30_0, own_r42_0, own_r45_0, own_r46_0, own_r48_0, own_r52_0]
  refine hQ _ _ _ _ ?_
  unfold own_s43SS own_g10
  refine ⟨(by (repeat refine LN_ou ?_ (by simp only [setA_len]; exact hA _)); exact hA), (by (repeat refine LNB_ou ?_ (by simp only [setA_len]; exact hB _)); exact hB), ?_⟩
  simp [h, bl, bb, own_bs]
set_option maxRecDepth 1000000 in
set_option maxHeartbeats 20000000 in
theorem own_u22LL (hd : DG c2 c3 c4 P) (he : DG d2 d3 d4 R) (hk : DK K) (hp : CL P) (hr : CL R) (h : own_s43LL s A L B c2 c3 c4 d2 d3 d4 P R K) (hQ : ∀ s' A' L' B', own_s45LL s' A' L' B' c2 c3 c4 d2 d3 d4 P R K → Q none (put 0 [] s' A' L' B' [])) : M9 0 [.val (.ref 0), .unset] [] (put 0 [] s A L B []) Q := by
  unfold DG at hd he
  unfold DK at hk
  unfold CL at hp
  unfold CL at hr
  unfold own_s43LL own_g10 at h
  obtain ⟨hA, hB, h⟩ := h
  have bl := bL hA
  have bb := bB hB
  rw [m9_0]
  simp (maxSteps := 10000000) [h, hd, he, hk, hp, hr, bl, bb, own_bs, XT.cmpL, own_sh0, own_t0, own_t1, own_t2, own_t3, own_t4, own_t5, own_r9_0, own_r49_0]
  refine hQ _ _ _ _ ?_
  unfold own_s45LL own_g10
  refine ⟨(by (repeat refine LN_ou ?_ (by simp only [setA_len]; exact hA _)); exact hA), (by (repeat refine LNB_ou ?_ (by simp only [setA_len]; exact hB _)); exact hB), ?_⟩
  simp [h, bl, bb, own_bs]
set_option maxRecDepth 1000000 in
set_option maxHeartbeats 20000000 in
theorem own_u22LS (hd : DG c2 c3 c4 P) (he : DG d2 d3 d4 R) (hk : DK K) (hp : CL P) (hr : CS R) (h : own_s43LS s A L B c2 c3 c4 d2 d3 d4 P R K) (hQ : ∀ s' A' L' B', own_s45LS s' A' L' B' c2 c3 c4 d2 d3 d4 P R K → Q none (put 0 [] s' A' L' B' [])) : M9 0 [.val (.ref 0), .unset] [] (put 0 [] s A L B []) Q := by
  unfold DG at hd he
  unfold DK at hk
  unfold CL at hp
  unfold CS at hr
  unfold own_s43LS own_g10 at h
  obtain ⟨hA, hB, h⟩ := h
  have bl := bL hA
  have bb := bB hB
  rw [m9_0]
  simp (maxSteps := 10000000) [h, hd, he, hk, hp, hr, bl, bb, own_bs, XT.cmpL, own_sh0, own_t0, own_t1, own_t2, own_t3, own_t4, own_t5, own_r9_0, own_r49_0]
  refine hQ _ _ _ _ ?_
  unfold own_s45LS own_g10
  refine ⟨(by (repeat refine LN_ou ?_ (by simp only [setA_len]; exact hA _)); exact hA), (by (repeat refine LNB_ou ?_ (by simp only [setA_len]; exact hB _)); exact hB), ?_⟩
  simp [h, bl, bb, own_bs]
set_option maxRecDepth 1000000 in
set_option maxHeartbeats 20000000 in
theorem own_u22SL (hd : DG c2 c3 c4 P) (he : DG d2 d3 d4 R) (hk : DK K) (hp : CS P) (hr : CL R) (h : own_s43SL s A L B c2 c3 c4 d2 d3 d4 P R K) (hQ : ∀ s' A' L' B', own_s45SL s' A' L' B' c2 c3 c4 d2 d3 d4 P R K → Q none (put 0 [] s' A' L' B' [])) : M9 0 [.val (.ref 0), .unset] [] (put 0 [] s A L B []) Q := by
  unfold DG at hd he
  unfold DK at hk
  unfold CS at hp
  unfold CL at hr
  unfold own_s43SL own_g10 at h
  obtain ⟨hA, hB, h⟩ := h
  have bl := bL hA
  have bb := bB hB
  rw [m9_0]
  simp (maxSteps := 10000000) [h, hd, he, hk, hp, hr, bl, bb, own_bs, XT.cmpL, own_sh0, own_t0, own_t1, own_t2, own_t3, own_t4, own_t5, own_r9_0, own_r49_0]
  refine hQ _ _ _ _ ?_
  unfold own_s45SL own_g10
  refine ⟨(by (repeat refine LN_ou ?_ (by simp only [setA_len]; exact hA _)); exact hA), (by (repeat refine LNB_ou ?_ (by simp only [setA_len]; exact hB _)); exact hB), ?_⟩
  simp [h, bl, bb, own_bs]
set_option maxRecDepth 1000000 in
set_option maxHeartbeats 20000000 in
theorem own_u22SS (hd : DG c2 c3 c4 P) (he : DG d2 d3 d4 R) (hk : DK K) (hp : CS P) (hr : CS R) (h : own_s43SS s A L B c2 c3 c4 d2 d3 d4 P R K) (hQ : ∀ s' A' L' B', own_s45SS s' A' L' B' c2 c3 c4 d2 d3 d4 P R K → Q none (put 0 [] s' A' L' B' [])) : M9 0 [.val (.ref 0), .unset] [] (put 0 [] s A L B []) Q := by
  unfold DG at hd he
  unfold DK at hk
  unfold CS at hp
  unfold CS at hr
  unfold own_s43SS own_g10 at h
  obtain ⟨hA, hB, h⟩ := h
  have bl := bL hA
  have bb := bB hB
  rw [m9_0]
  simp (maxSteps := 10000000) [h, hd, he, hk, hp, hr, bl, bb, own_bs, XT.cmpL, own_sh0, own_t0, own_t1, own_t2, own_t3, own_t4, own_t5, own_r9_0, own_r49_0]
  refine hQ _ _ _ _ ?_
  unfold own_s45SS own_g10
  refine ⟨(by (repeat refine LN_ou ?_ (by simp only [setA_len]; exact hA _)); exact hA), (by (repeat refine LNB_ou ?_ (by simp only [setA_len]; exact hB _)); exact hB), ?_⟩
  simp [h, bl, bb, own_bs]
set_option maxRecDepth 1000000 in
set_option maxHeartbeats 20000000 in
theorem own_u23LL (hd : DG c2 c3 c4 P) (he : DG d2 d3 d4 R) (hk : DK K) (hp : CL P) (hr : CL R) (h : own_s45LL s A L B c2 c3 c4 d2 d3 d4 P R K) (hQ : ∀ s' A' L' B', own_s47LL s' A' L' B' c2 c3 c4 d2 d3 d4 P R K → Q none (put 0 [] s' A' L' B' [])) : M53 0 [.val (.ref 0), .unset, .unset, .unset, .unset] [] (put 0 [] s A L B []) Q := by
  unfold DG at hd he
  unfold DK at hk
  unfold CL at hp
  unfold CL at hr
  unfold own_s45LL own_g10 at h
  obtain ⟨hA, hB, h⟩ := h
  have bl := bL hA
  have bb := bB hB
  rw [m53_0]
  simp (maxSteps := 10000000) [h, hd, he, hk, hp, hr, bl, bb, own_bs, XT.cmpL, own_sh0, own_t0, own_t1, own_t2, own_t3, own_t4, own_t5, own_r46_0, own_r53_0]
  refine hQ _ _ _ _ ?_
  unfold own_s47LL
  refine ⟨(by (repeat refine LN_ou ?_ (by simp only [setA_len]; exact hA _)); exact hA), (by (repeat refine LNB_ou ?_ (by simp only [setA_len]; exact hB _)); exact hB), ?_⟩
  simp [h, bl, bb, own_bs]
set_option maxRecDepth 1000000 in
set_option maxHeartbeats 20000000 in
theorem own_u23LS (hd : DG c2 c3 c4 P) (he : DG d2 d3 d4 R) (hk : DK K) (hp : CL P) (hr : CS R) (h : own_s45LS s A L B c2 c3 c4 d2 d3 d4 P R K) (hQ : ∀ s' A' L' B', own_s47LS s' A' L' B' c2 c3 c4 d2 d3 d4 P R K → Q none (put 0 [] s' A' L' B' [])) : M53 0 [.val (.ref 0), .unset, .unset, .unset, .unset] [] (put 0 [] s A L B []) Q := by
  unfold DG at hd he
  unfold DK at hk
  unfold CL at hp
  unfold CS at hr
  unfold own_s45LS own_g10 at h
  obtain ⟨hA, hB, h⟩ := h
  have bl := bL hA
  have bb := bB hB
  rw [m53_0]
  simp (maxSteps := 10000000) [h, hd, he, hk, hp, hr, bl, bb, own_bs, XT.cmpL, own_sh0, own_t0, own_t1, own_t2, own_t3, own_t4, own_t5, own_r46_0, own_r53_0]
  refine hQ _ _ _ _ ?_
  unfold own_s47LS
  refine ⟨(by (repeat refine LN_ou ?_ (by simp only [setA_len]; exact hA _)); exact hA), (by (repeat refine LNB_ou ?_ (by simp only [setA_len]; exact hB _)); exact hB), ?_⟩
  simp [h, bl, bb, own_bs]
set_option maxRecDepth 1000000 in
set_option maxHeartbeats 20000000 in
theorem own_u23SL (hd : DG c2 c3 c4 P) (he : DG d2 d3 d4 R) (hk : DK K) (hp : CS P) (hr : CL R) (h : own_s45SL s A L B c2 c3 c4 d2 d3 d4 P R K) (hQ : ∀ s' A' L' B', own_s47SL s' A' L' B' c2 c3 c4 d2 d3 d4 P R K → Q none (put 0 [] s' A' L' B' [])) : M53 0 [.val (.ref 0), .unset, .unset, .unset, .unset] [] (put 0 [] s A L B []) Q := by
  unfold DG at hd he
  unfold DK at hk
  unfold CS at hp
  unfold CL at hr
  unfold own_s45SL own_g10 at h
  obtain ⟨hA, hB, h⟩ := h
  have bl := bL hA
  have bb := bB hB
  rw [m53_0]
  simp (maxSteps := 10000000) [h, hd, he, hk, hp, hr, bl, bb, own_bs, XT.cmpL, own_sh0, own_t0, own_t1, own_t2, own_t3, own_t4, own_t5, own_r46_0, own_r53_0]
  refine hQ _ _ _ _ ?_
  unfold own_s47SL
  refine ⟨(by (repeat refine LN_ou ?_ (by simp only [setA_len]; exact hA _)); exact hA), (by (repeat refine LNB_ou ?_ (by simp only [setA_len]; exact hB _)); exact hB), ?_⟩
  simp [h, bl, bb, own_bs]
set_option maxRecDepth 1000000 in
set_option maxHeartbeats 20000000 in
theorem own_u23SS (hd : DG c2 c3 c4 P) (he : DG d2 d3 d4 R) (hk : DK K) (hp : CS P) (hr : CS R) (h : own_s45SS s A L B c2 c3 c4 d2 d3 d4 P R K) (hQ : ∀ s' A' L' B', own_s47SS s' A' L' B' c2 c3 c4 d2 d3 d4 P R K → Q none (put 0 [] s' A' L' B' [])) : M53 0 [.val (.ref 0), .unset, .unset, .unset, .unset] [] (put 0 [] s A L B []) Q := by
  unfold DG at hd he
  unfold DK at hk
  unfold CS at hp
  unfold CS at hr
  unfold own_s45SS own_g10 at h
  obtain ⟨hA, hB, h⟩ := h
  have bl := bL hA
  have bb := bB hB
  rw [m53_0]
  simp (maxSteps := 10000000) [h, hd, he, hk, hp, hr, bl, bb, own_bs, XT.cmpL, own_sh0, own_t0, own_t1, own_t2, own_t3, own_t4, own_t5, own_r46_0, own_r53_0]
  refine hQ _ _ _ _ ?_
  unfold own_s47SS
  refine ⟨(by (repeat refine LN_ou ?_ (by simp only [setA_len]; exact hA _)); exact hA), (by (repeat refine LNB_ou ?_ (by simp only [setA_len]; exact hB _)); exact hB), ?_⟩
  simp [h, bl, bb, own_bs]
end Un
def OKL (s : Nat → Int32) (A : Nat → List Int32) : Prop := LN A ∧ 0 ≤ (s 29).toInt ∧ (s 29).toInt ≤ 624
def FRL (s : Nat → Int32) (A : Nat → List Int32) (s' : Nat → Int32) (A' : Nat → List Int32) : Prop := OKL s' A' ∧ (∀ i, i ≠ 29 → i ≠ 30 → s' i = s i) ∧ (∀ j, j ≠ 5 → j ≠ 6 → A' j = A j)
theorem i_624 : (624 : Int32).toInt = 624 := rfl
theorem i_12 : (12 : Int32).toInt = 12 := rfl
theorem i_9 : (9 : Int32).toInt = 9 := rfl
section List
variable {Q : Option Value → AHeap → Prop} {s s1 s2 : Nat → Int32} {A A1 A2 : Nat → List Int32} {L : Nat → Int64} {B : Nat → List Int64}
theorem FRL_r (h : OKL s A) : FRL s A s A := ⟨h, fun _ _ _ => rfl, fun _ _ _ => rfl⟩
theorem FRL_t (h : FRL s A s1 A1) (k : FRL s1 A1 s2 A2) : FRL s A s2 A2 := ⟨k.1, fun i a b => (k.2.1 i a b).trans (h.2.1 i a b), fun j a b => (k.2.2 j a b).trans (h.2.2 j a b)⟩
theorem lp58 {c : Int32} (h : OKL s A) (hQ : ∀ s' A', FRL s A s' A' → Q none (put 0 [] s' A' L B [])) : M58 0 [.val (.ref 0), .val (.int c)] [] (put 0 [] s A L B []) Q := by
  have h1 := h.2.1
  by_cases c1 : s 29 < 624
  · have c2 := c1
    rw [lt_i, i_624] at c2
    have q : inB (s 29) (A 5) := by rw [inB_iff, h.1 5, A0l_5]; exact ⟨h1, by omega⟩
    have e : (s 29 + 1).toInt = (s 29).toInt + 1 := add1_i (by omega)
    simp [c1, q, m58_0, m58_10, m58_11, m58_22, m58_32, nb0, nb1, ou_a, Option.toList_some, Option.toList_none, List.nil_append, List.cons_append]
    refine hQ _ _ ⟨⟨LN_ou h.1 (by simp only [setA_len]; exact h.1 _), ?_, ?_⟩, fun i a _ => by rw [ou_a, if_neg a], fun j a _ => by rw [ou_a, if_neg a]⟩
    · show 0 ≤ (s 29 + 1).toInt
      omega
    · show (s 29 + 1).toInt ≤ 624
      omega
  · simp [c1, m58_0, m58_10, m58_11, m58_22, m58_32, nb0, nb1, ou_a, Option.toList_some, Option.toList_none, List.nil_append, List.cons_append]
    exact hQ s A (FRL_r h)
theorem t256 : ∀ k : Fin 256, -(Int32.ofNat k.val) / 10 / 10 / 10 = 0 := by decide +kernel
theorem t255 {v : Int32} (v0 : 0 ≤ v.toInt) (v1 : v.toInt ≤ 255) : -v / 10 / 10 / 10 = 0 := by
  obtain ⟨k, hk, e⟩ := rng (x := v) (n := 256) v0 (by omega)
  rw [e]
  exact t256 ⟨k, hk⟩
set_option maxRecDepth 1000000 in
set_option maxHeartbeats 20000000 in
theorem td40a {v : Int32} (v0 : ¬ v < 0) (t1 : -v / 10 = 0) (h : LN A) (hQ : ∀ (p : Int32) A', (p = 9 ∨ p = 10 ∨ p = 11) → LN A' → (∀ j, j ≠ 6 → A' j = A j) → Q none (put 0 [] (ou s 30 p) A' L B [])) : M40 0 [.val (.ref 0), .val (.int v), .unset, .unset, .unset] [] (put 0 [] s A L B []) Q := by
  have y6 : (A 6).length = 12 := (h 6).trans A0l_6
  simp [v0, t1, y6, inB_iff, setA_len, m40_0, m40_8, m40_9, m40_10u, m40_11, m40_17, m40_24, m40_37, m40_38, m40_39, m40_40, m40_41, m40_44, m40_45i, m40_46, m40_50, m40_53, m40_59, m40_78, m40_83, nb0, nb1, ou_a, Option.toList_some, Option.toList_none, List.nil_append, List.cons_append]
  exact hQ 11 _ (Or.inr (Or.inr rfl)) (by (repeat refine LN_ou ?_ (by simp only [setA_len]; exact h _)); exact h) (fun j a => by simp only [ou_a, if_neg a])
set_option maxRecDepth 1000000 in
set_option maxHeartbeats 20000000 in
theorem td40b {v : Int32} (v0 : ¬ v < 0) (t1 : ¬ -v / 10 = 0) (t2 : -v / 10 / 10 = 0) (h : LN A) (hQ : ∀ (p : Int32) A', (p = 9 ∨ p = 10 ∨ p = 11) → LN A' → (∀ j, j ≠ 6 → A' j = A j) → Q none (put 0 [] (ou s 30 p) A' L B [])) : M40 0 [.val (.ref 0), .val (.int v), .unset, .unset, .unset] [] (put 0 [] s A L B []) Q := by
  have y6 : (A 6).length = 12 := (h 6).trans A0l_6
  simp [v0, t1, t2, y6, inB_iff, setA_len, m40_0, m40_8, m40_9, m40_10u, m40_11, m40_17, m40_24, m40_37, m40_38, m40_39, m40_40, m40_41, m40_44, m40_45i, m40_46, m40_50, m40_53, m40_59, m40_78, m40_83, nb0, nb1, ou_a, Option.toList_some, Option.toList_none, List.nil_append, List.cons_append]
  exact hQ 10 _ (Or.inr (Or.inl rfl)) (by (repeat refine LN_ou ?_ (by simp only [setA_len]; exact h _)); exact h) (fun j a => by simp only [ou_a, if_neg a])
set_option maxRecDepth 1000000 in
set_option maxHeartbeats 20000000 in
theorem td40c {v : Int32} (v0 : ¬ v < 0) (t1 : ¬ -v / 10 = 0) (t2 : ¬ -v / 10 / 10 = 0) (t3 : -v / 10 / 10 / 10 = 0) (h : LN A) (hQ : ∀ (p : Int32) A', (p = 9 ∨ p = 10 ∨ p = 11) → LN A' → (∀ j, j ≠ 6 → A' j = A j) → Q none (put 0 [] (ou s 30 p) A' L B [])) : M40 0 [.val (.ref 0), .val (.int v), .unset, .unset, .unset] [] (put 0 [] s A L B []) Q := by
  have y6 : (A 6).length = 12 := (h 6).trans A0l_6
  simp [v0, t1, t2, t3, y6, inB_iff, setA_len, m40_0, m40_8, m40_9, m40_10u, m40_11, m40_17, m40_24, m40_37, m40_38, m40_39, m40_40, m40_41, m40_44, m40_45i, m40_46, m40_50, m40_53, m40_59, m40_78, m40_83, nb0, nb1, ou_a, Option.toList_some, Option.toList_none, List.nil_append, List.cons_append]
  exact hQ 9 _ (Or.inl rfl) (by (repeat refine LN_ou ?_ (by simp only [setA_len]; exact h _)); exact h) (fun j a => by simp only [ou_a, if_neg a])
set_option maxRecDepth 1000000 in
set_option maxHeartbeats 20000000 in
theorem pl60 {v : Int32} : ∀ (n : Nat) (i : Int32) (s : Nat → Int32) (A : Nat → List Int32), 0 ≤ i.toInt → i.toInt + n = 12 → OKL s A → (∀ s' A', FRL s A s' A' → Q none (put 0 [] s' A' L B [])) → M60 10 [.val (.ref 0), .val (.int v), .val (.int i)] [] (put 0 [] s A L B []) Q := by
  intro n
  induction n with
  | zero =>
    intro i s A i0 e h hQ
    have g : ¬ i < 12 := by rw [lt_i, i_12]; omega
    rw [m60_10]
    simp [g, m60_0, m60_2, m60_5, m60_16, m60_23, m60_26, m60_32, nb0, nb1, ou_a, Option.toList_some, Option.toList_none, List.nil_append, List.cons_append]
    exact hQ s A (FRL_r h)
  | succ n ih =>
    intro i s A i0 e h hQ
    have g : i < 12 := by rw [lt_i, i_12]; omega
    have q : inB i (A 6) := by rw [inB_iff, h.1 6, A0l_6]; exact ⟨i0, by omega⟩
    have ei := add1_i (a := i) (by omega)
    rw [m60_10]
    simp [g, q, m60_0, m60_2, m60_5, m60_16, m60_23, m60_26, m60_32, nb0, nb1, ou_a, Option.toList_some, Option.toList_none, List.nil_append, List.cons_append]
    refine lp58 h (fun s1 A1 f1 => ?_)
    simp [m60_0, m60_2, m60_5, m60_16, m60_23, m60_26, m60_32, nb0, nb1, ou_a, Option.toList_some, Option.toList_none, List.nil_append, List.cons_append]
    exact ih (i + 1) s1 A1 (by omega) (by omega) f1.1 (fun s2 A2 f2 => hQ s2 A2 (FRL_t f1 f2))
theorem pn60 {v : Int32} (v0 : 0 ≤ v.toInt) (v1 : v.toInt ≤ 255) (h : OKL s A) (hQ : ∀ s' A', FRL s A s' A' → Q none (put 0 [] s' A' L B [])) : M60 0 [.val (.ref 0), .val (.int v), .unset] [] (put 0 [] s A L B []) Q := by
  have n0 : ¬ v < 0 := by rw [nn_i]; exact v0
  have go : ∀ (p : Int32) (A' : Nat → List Int32), (p = 9 ∨ p = 10 ∨ p = 11) → LN A' → (∀ j, j ≠ 6 → A' j = A j) → M60 10 [.val (.ref 0), .val (.int v), .val (.int p)] [] (put 0 [] (ou s 30 p) A' L B []) Q := by
    intro p A1 hp h1 f1
    have k0 : FRL s A (ou s 30 p) A1 := ⟨⟨h1, h.2.1, h.2.2⟩, fun i a b => by rw [ou_a, if_neg b], fun j a b => f1 j b⟩
    have hp' : 0 ≤ p.toInt ∧ p.toInt ≤ 12 := by rcases hp with rfl | rfl | rfl <;> decide
    exact pl60 (12 - p.toInt).toNat p _ A1 hp'.1 (by omega) k0.1 (fun s2 A2 f2 => hQ s2 A2 (FRL_t k0 f2))
  simp [m60_0, m60_2, nb0, nb1, ou_a, Option.toList_some, Option.toList_none, List.nil_append, List.cons_append]
  by_cases t1 : -v / 10 = 0
  · refine td40a n0 t1 h.1 (fun p A1 hp h1 f1 => ?_)
    simp [m60_5, nb0, nb1, ou_a, Option.toList_some, Option.toList_none, List.nil_append, List.cons_append]
    exact go p A1 hp h1 f1
  by_cases t2 : -v / 10 / 10 = 0
  · refine td40b n0 t1 t2 h.1 (fun p A1 hp h1 f1 => ?_)
    simp [m60_5, nb0, nb1, ou_a, Option.toList_some, Option.toList_none, List.nil_append, List.cons_append]
    exact go p A1 hp h1 f1
  · refine td40c n0 t1 t2 (t255 v0 v1) h.1 (fun p A1 hp h1 f1 => ?_)
    simp [m60_5, nb0, nb1, ou_a, Option.toList_some, Option.toList_none, List.nil_append, List.cons_append]
    exact go p A1 hp h1 f1
theorem nl56a {w : Int64} {H : AHeap} (hQ : ∀ r : Int32, 0 ≤ r.toInt → r.toInt ≤ 9 → Q (some (.int r)) H) : ∀ (n : Nat) (g k : Int32) (c : Int64), 0 ≤ k.toInt → k.toInt ≤ g.toInt → g.toInt + n = 9 → M56 8 [.val (.ref 0), .val (.long w), .second, .val (.long c), .second, .val (.int k), .val (.int g)] [] H Q := by
  intro n
  induction n with
  | zero =>
    intro g k c k0 k1 e
    have z : ¬ g < 9 := by rw [lt_i, i_9]; omega
    rw [m56_8]
    simp [z, m56_0, m56_1, m56_2, m56_15, m56_21, m56_25, m56_26, m56_35, m56_37, nb0, nb1, ou_a, Option.toList_some, Option.toList_none, List.nil_append, List.cons_append]
    exact hQ k k0 (by omega)
  | succ n ih =>
    intro g k c k0 k1 e
    have z : g < 9 := by rw [lt_i, i_9]; omega
    have eg := add1_i (a := g) (by omega)
    have ek := add1_i (a := k) (by omega)
    rw [m56_8]
    by_cases y : 0 < XT.cmpL c 0
    · simp [z, y, m56_0, m56_1, m56_2, m56_15, m56_21, m56_25, m56_26, m56_35, m56_37, nb0, nb1, ou_a, Option.toList_some, Option.toList_none, List.nil_append, List.cons_append]
      exact ih (g + 1) (k + 1) _ (by omega) (by omega) (by omega)
    · simp [z, y, m56_0, m56_1, m56_2, m56_15, m56_21, m56_25, m56_26, m56_35, m56_37, nb0, nb1, ou_a, Option.toList_some, Option.toList_none, List.nil_append, List.cons_append]
      exact hQ k k0 (by omega)
theorem pn55a {c : Int64} {r : Int32} : ∀ (n : Nat) (k : Int32) (k5 : Slot) (s : Nat → Int32) (A : Nat → List Int32), okS k5 → 0 ≤ k.toInt → r.toInt ≤ 9 → k.toInt + n = r.toInt → OKL s A → (∀ s' A', FRL s A s' A' → Q none (put 0 [] s' A' L B [])) → M55 9 [.val (.ref 0), .val (.long c), .second, .val (.int r), .val (.int k), k5] [] (put 0 [] s A L B []) Q := by
  intro n
  induction n with
  | zero =>
    intro k k5 s A o5 k0 r9 e h hQ
    have z : ¬ k < r := by rw [lt_i]; omega
    rw [m55_9]
    simp [z, m55_0, m55_2, m55_5u, m55_6, m55_15, m55_20, m55_23u, m55_23i, m55_23g, m55_25, m55_28, m55_31, m55_37, nb0, nb1, ou_a, Option.toList_some, Option.toList_none, List.nil_append, List.cons_append]
    exact hQ s A (FRL_r h)
  | succ n ih =>
    intro k k5 s A o5 k0 r9 e h hQ
    have z : k < r := by rw [lt_i]; omega
    have ek := add1_i (a := k) (by omega)
    rw [m55_9]
    simp [z, o5, -Int64.toInt32_and, -Int64.toInt32_or, -Int64.toInt32_xor, -Int32.toInt64_and, -Int32.toInt64_or, -Int32.toInt64_xor, -Int32.toInt8_and, -Int32.toUInt32_and, -Int32.toUInt32_or, -Int32.toUInt32_xor, m55_0, m55_2, m55_5u, m55_6, m55_15, m55_20, m55_23u, m55_23i, m55_23g, m55_25, m55_28, m55_31, m55_37, m57_0, m57_16, nb0, nb1, ou_a, Option.toList_some, Option.toList_none, List.nil_append, List.cons_append]
    refine lp58 h (fun s1 A1 f1 => ?_)
    simp [m55_0, m55_2, m55_5u, m55_6, m55_15, m55_20, m55_23u, m55_23i, m55_23g, m55_25, m55_28, m55_31, m55_37, nb0, nb1, ou_a, Option.toList_some, Option.toList_none, List.nil_append, List.cons_append]
    exact ih (k + 1) _ s1 A1 (okS_i _) (by omega) r9 (by omega) f1.1 (fun s2 A2 f2 => hQ s2 A2 (FRL_t f1 f2))
theorem pn55 {c : Int64} (h : OKL s A) (hQ : ∀ s' A', FRL s A s' A' → Q none (put 0 [] s' A' L B [])) : M55 0 [.val (.ref 0), .val (.long c), .second, .unset, .unset, .unset] [] (put 0 [] s A L B []) Q := by
  simp [m55_0, m55_2, m56_0, m56_1, m56_2, nb0, nb1, ou_a, Option.toList_some, Option.toList_none, List.nil_append, List.cons_append]
  refine nl56a (fun r r0 r1 => ?_) 9 0 0 c (by decide) (by decide) rfl
  simp [m55_5u, m55_6, nb0, nb1, ou_a, Option.toList_some, Option.toList_none, List.nil_append, List.cons_append]
  exact pn55a r.toInt.toNat 0 .unset s A okS_u (by decide) r1 (by rw [show (0 : Int32).toInt = 0 from rfl]; omega) h hQ
set_option maxRecDepth 1000000 in
set_option maxHeartbeats 20000000 in
theorem kw1 (h : OKL s A) (hQ : ∀ s' A', FRL s A s' A' → Q none (put 0 [] s' A' L B [])) : M59 0 [.val (.ref 0), .val (.int 1), .unset, .unset] [] (put 0 [] s A L B []) Q := by
  simp [own_t0, own_t1, own_t2, own_t3, own_t4, own_t5, m59_0, m59_2, m59_5, m59_6, m59_8, m59_11, own_r20_0, own_r20_1, own_r21_0, nb0, nb1, ou_a, Option.toList_some, Option.toList_none, List.nil_append, List.cons_append]
  refine pn55 h (fun s1 A1 f1 => ?_)
  simp [m59_0, m59_2, m59_5, m59_6, m59_8, m59_11, nb0, nb1, ou_a, Option.toList_some, Option.toList_none, List.nil_append, List.cons_append]
  exact hQ s1 A1 f1
set_option maxRecDepth 1000000 in
set_option maxHeartbeats 20000000 in
theorem kw4 (h : OKL s A) (hQ : ∀ s' A', FRL s A s' A' → Q none (put 0 [] s' A' L B [])) : M59 0 [.val (.ref 0), .val (.int 4), .unset, .unset] [] (put 0 [] s A L B []) Q := by
  simp [own_t0, own_t1, own_t2, own_t3, own_t4, own_t5, m59_0, m59_2, m59_5, m59_6, m59_8, m59_11, own_r20_0, own_r20_1, own_r21_0, nb0, nb1, ou_a, Option.toList_some, Option.toList_none, List.nil_append, List.cons_append]
  refine pn55 h (fun s1 A1 f1 => ?_)
  simp [m59_0, m59_2, m59_5, m59_6, m59_8, m59_11, nb0, nb1, ou_a, Option.toList_some, Option.toList_none, List.nil_append, List.cons_append]
  exact hQ s1 A1 f1
set_option maxRecDepth 1000000 in
set_option maxHeartbeats 20000000 in
theorem kw8 (h : OKL s A) (hQ : ∀ s' A', FRL s A s' A' → Q none (put 0 [] s' A' L B [])) : M59 0 [.val (.ref 0), .val (.int 8), .unset, .unset] [] (put 0 [] s A L B []) Q := by
  simp [own_t0, own_t1, own_t2, own_t3, own_t4, own_t5, m59_0, m59_2, m59_5, m59_6, m59_8, m59_11, own_r20_0, own_r20_1, own_r21_0, nb0, nb1, ou_a, Option.toList_some, Option.toList_none, List.nil_append, List.cons_append]
  refine pn55 h (fun s1 A1 f1 => ?_)
  simp [m59_0, m59_2, m59_5, m59_6, m59_8, m59_11, nb0, nb1, ou_a, Option.toList_some, Option.toList_none, List.nil_append, List.cons_append]
  exact hQ s1 A1 f1
set_option maxRecDepth 1000000 in
set_option maxHeartbeats 20000000 in
theorem kw9 (h : OKL s A) (hQ : ∀ s' A', FRL s A s' A' → Q none (put 0 [] s' A' L B [])) : M59 0 [.val (.ref 0), .val (.int 9), .unset, .unset] [] (put 0 [] s A L B []) Q := by
  simp [own_t0, own_t1, own_t2, own_t3, own_t4, own_t5, m59_0, m59_2, m59_5, m59_6, m59_8, m59_11, own_r20_0, own_r20_1, own_r21_0, nb0, nb1, ou_a, Option.toList_some, Option.toList_none, List.nil_append, List.cons_append]
  refine pn55 h (fun s1 A1 f1 => ?_)
  simp [m59_0, m59_2, m59_5, m59_6, m59_8, m59_11, nb0, nb1, ou_a, Option.toList_some, Option.toList_none, List.nil_append, List.cons_append]
  exact hQ s1 A1 f1
set_option maxRecDepth 1000000 in
set_option maxHeartbeats 20000000 in
theorem kw11 (h : OKL s A) (hQ : ∀ s' A', FRL s A s' A' → Q none (put 0 [] s' A' L B [])) : M59 0 [.val (.ref 0), .val (.int 11), .unset, .unset] [] (put 0 [] s A L B []) Q := by
  simp [own_t0, own_t1, own_t2, own_t3, own_t4, own_t5, m59_0, m59_2, m59_5, m59_6, m59_8, m59_11, own_r20_0, own_r20_1, own_r21_0, nb0, nb1, ou_a, Option.toList_some, Option.toList_none, List.nil_append, List.cons_append]
  refine pn55 h (fun s1 A1 f1 => ?_)
  simp [m59_0, m59_2, m59_5, m59_6, m59_8, m59_11, nb0, nb1, ou_a, Option.toList_some, Option.toList_none, List.nil_append, List.cons_append]
  exact hQ s1 A1 f1
def own_x54 := And.intro (And.intro (And.intro (And.intro @m54_0 (And.intro @m54_5 @m54_15)) (And.intro @m54_21 (And.intro @m54_28 @m54_31))) (And.intro (And.intro @m54_34 (And.intro @m54_37 @m54_40)) (And.intro @m54_43 (And.intro @m54_46 @m54_49)))) (And.intro (And.intro (And.intro @m54_56 (And.intro @m54_59 @m54_62)) (And.intro @m54_65 (And.intro @m54_71 @m54_81))) (And.intro (And.intro @m54_89 (And.intro @m54_95 @m54_97)) (And.intro @m54_100i (And.intro @m54_101 @m54_107))))
def own_x61 := And.intro (And.intro (And.intro (And.intro (And.intro @m61_0 @m61_6u) (And.intro @m61_7 (And.intro @m61_11 @m61_16))) (And.intro (And.intro @m61_18 @m61_21) (And.intro @m61_24 (And.intro @m61_27 @m61_30)))) (And.intro (And.intro (And.intro @m61_31 @m61_37) (And.intro @m61_43 (And.intro @m61_47 @m61_48))) (And.intro (And.intro @m61_49 (And.intro @m61_50 @m61_53)) (And.intro @m61_56 (And.intro @m61_59 @m61_63))))) (And.intro (And.intro (And.intro (And.intro @m61_64 @m61_67) (And.intro @m61_70 (And.intro @m61_73 @m61_76))) (And.intro (And.intro @m61_77 @m61_84) (And.intro @m61_91 (And.intro @m61_101 @m61_109)))) (And.intro (And.intro (And.intro @m61_114 @m61_117) (And.intro @m61_120 (And.intro @m61_123 @m61_126))) (And.intro (And.intro @m61_129 (And.intro @m61_138 @m61_141)) (And.intro @m61_144 (And.intro @m61_147 @m61_150)))))
set_option maxRecDepth 1000000 in
set_option maxHeartbeats 20000000 in
theorem sl54 {i v : Int32} {k2 : Slot} (h : OKL s A) (hB : LNB B) (c1 : i < s 28) (c2 : i < 16) (i0 : 0 ≤ i.toInt) (hv : getA (A 4) i = v) (v0 : 0 ≤ v.toInt) (v1 : v.toInt ≤ 255) (hQ : ∀ s' A', FRL s A s' A' → M54 7 [.val (.ref 0), .val (.int (i + 1)), k2] [] (put 0 [] s' A' L B []) Q) : M54 7 [.val (.ref 0), .val (.int i), k2] [] (put 0 [] s A L B []) Q := by
  have c3 := c2
  rw [lt_i, show (16 : Int32).toInt = 16 from rfl] at c3
  have q0 : inB i (B 0) := by rw [inB_iff, (bB hB).1]; exact ⟨i0, by omega⟩
  rw [m54_7]
  simp [c1, c2, q0, own_x54, ou_a]
  refine pn55 h (fun s1 A1 f1 => ?_)
  simp [own_x54, ou_a]
  refine lp58 f1.1 (fun s2 A2 f2 => ?_)
  have g2 := FRL_t f1 f2
  simp [own_x54, ou_a]
  refine kw11 g2.1 (fun s3 A3 f3 => ?_)
  have g3 := FRL_t g2 f3
  simp [own_x54, ou_a]
  refine lp58 g3.1 (fun s4 A4 f4 => ?_)
  have g4 := FRL_t g3 f4
  have q4 : inB i (A4 4) := by rw [g4.2.2 4 (by decide) (by decide), inB_iff, h.1 4, A0l_4]; exact ⟨i0, by omega⟩
  have e4 : getA (A4 4) i = v := by rw [g4.2.2 4 (by decide) (by decide)]; exact hv
  simp [q4, e4, own_x54, ou_a]
  refine pn60 v0 v1 g4.1 (fun s5 A5 f5 => ?_)
  have g5 := FRL_t g4 f5
  simp [own_x54, ou_a]
  refine lp58 g5.1 (fun s6 A6 f6 => ?_)
  simp [own_x54, ou_a]
  exact hQ s6 A6 (FRL_t g5 f6)
set_option maxRecDepth 1000000 in
set_option maxHeartbeats 20000000 in
theorem lo1 {a : Int32} (h : OKL s A) (qa : inB a (A 3)) (hb : getA (A 3) a = 1) (hQ : ∀ s' A', FRL s A s' A' → Q (some (.int (a + 1))) (put 0 [] s' A' L B [])) : M61 0 [.val (.ref 0), .val (.int a), .unset] [] (put 0 [] s A L B []) Q := by
  simp [qa, hb, own_x61, ou_a]
  refine kw1 h (fun s1 A1 f1 => ?_)
  simp [own_x61, ou_a]
  refine lp58 f1.1 (fun s2 A2 f2 => ?_)
  try simp [own_x61, ou_a]
  exact hQ s2 A2 (FRL_t f1 f2)
set_option maxRecDepth 1000000 in
set_option maxHeartbeats 20000000 in
theorem lo2_4 {a b v : Int32} (h : OKL s A) (qa : inB a (A 3)) (hb : getA (A 3) a = b) (b0 : ¬ b < 0) (b1 : 3 < b) (b2 : ¬ b < 16) (b3 : ¬ 111 < b) (b4 : b / 16 = 1) (b5 : b % 16 = v) (v0 : 0 ≤ v.toInt) (v1 : v.toInt ≤ 255) (hQ : ∀ s' A', FRL s A s' A' → Q (some (.int (a + 1))) (put 0 [] s' A' L B [])) : M61 0 [.val (.ref 0), .val (.int a), .unset] [] (put 0 [] s A L B []) Q := by
  simp [qa, hb, b0, b1, b2, b3, b4, own_x61, ou_a]
  refine kw4 h (fun s1 A1 f1 => ?_)
  simp [own_x61, ou_a]
  refine lp58 f1.1 (fun s2 A2 f2 => ?_)
  have g2 := FRL_t f1 f2
  simp [b5, own_x61, ou_a]
  refine pn60 v0 v1 g2.1 (fun s3 A3 f3 => ?_)
  have g3 := FRL_t g2 f3
  simp [own_x61, ou_a]
  refine lp58 g3.1 (fun s4 A4 f4 => ?_)
  try simp [own_x61, ou_a]
  exact hQ s4 A4 (FRL_t g3 f4)
set_option maxRecDepth 1000000 in
set_option maxHeartbeats 20000000 in
theorem lo2_9 {a b v : Int32} (h : OKL s A) (qa : inB a (A 3)) (hb : getA (A 3) a = b) (b0 : ¬ b < 0) (b1 : 3 < b) (b2 : ¬ b < 16) (b3 : ¬ 111 < b) (b4 : b / 16 = 6) (b5 : b % 16 = v) (v0 : 0 ≤ v.toInt) (v1 : v.toInt ≤ 255) (hQ : ∀ s' A', FRL s A s' A' → Q (some (.int (a + 1))) (put 0 [] s' A' L B [])) : M61 0 [.val (.ref 0), .val (.int a), .unset] [] (put 0 [] s A L B []) Q := by
  simp [qa, hb, b0, b1, b2, b3, b4, own_x61, ou_a]
  refine kw9 h (fun s1 A1 f1 => ?_)
  simp [own_x61, ou_a]
  refine lp58 f1.1 (fun s2 A2 f2 => ?_)
  have g2 := FRL_t f1 f2
  simp [b5, own_x61, ou_a]
  refine pn60 v0 v1 g2.1 (fun s3 A3 f3 => ?_)
  have g3 := FRL_t g2 f3
  simp [own_x61, ou_a]
  refine lp58 g3.1 (fun s4 A4 f4 => ?_)
  try simp [own_x61, ou_a]
  exact hQ s4 A4 (FRL_t g3 f4)
set_option maxRecDepth 1000000 in
set_option maxHeartbeats 20000000 in
theorem lo3_4 {a v : Int32} (h : OKL s A) (qa : inB a (A 3)) (qb : inB (a + 1) (A 3)) (hb : getA (A 3) a = 129) (c1 : a + 1 < s 26) (c2 : a + 1 < 32) (hv : getA (A 3) (a + 1) = v) (v0 : 0 ≤ v.toInt) (v1 : v.toInt ≤ 255) (hQ : ∀ s' A', FRL s A s' A' → Q (some (.int (a + 2))) (put 0 [] s' A' L B [])) : M61 0 [.val (.ref 0), .val (.int a), .unset] [] (put 0 [] s A L B []) Q := by
  simp [qa, hb, c1, c2, own_x61, ou_a]
  refine kw4 h (fun s1 A1 f1 => ?_)
  simp [own_x61, ou_a]
  refine lp58 f1.1 (fun s2 A2 f2 => ?_)
  have g2 := FRL_t f1 f2
  simp [own_x61, ou_a]
  refine lp58 g2.1 (fun s3 A3 f3 => ?_)
  have g3 := FRL_t g2 f3
  have e3 : A3 3 = A 3 := g3.2.2 3 (by decide) (by decide)
  simp [e3, qb, hv, own_x61, ou_a]
  refine pn60 v0 v1 g3.1 (fun s4 A4 f4 => ?_)
  have g4 := FRL_t g3 f4
  simp [own_x61, ou_a]
  refine lp58 g4.1 (fun s5 A5 f5 => ?_)
  try simp [own_x61, ou_a]
  exact hQ s5 A5 (FRL_t g4 f5)
set_option maxRecDepth 1000000 in
set_option maxHeartbeats 20000000 in
theorem lo3_8 {a v : Int32} (h : OKL s A) (qa : inB a (A 3)) (qb : inB (a + 1) (A 3)) (hb : getA (A 3) a = 133) (c1 : a + 1 < s 26) (c2 : a + 1 < 32) (hv : getA (A 3) (a + 1) = v) (v0 : 0 ≤ v.toInt) (v1 : v.toInt ≤ 255) (hQ : ∀ s' A', FRL s A s' A' → Q (some (.int (a + 2))) (put 0 [] s' A' L B [])) : M61 0 [.val (.ref 0), .val (.int a), .unset] [] (put 0 [] s A L B []) Q := by
  simp [qa, hb, c1, c2, own_x61, ou_a]
  refine kw8 h (fun s1 A1 f1 => ?_)
  simp [own_x61, ou_a]
  refine lp58 f1.1 (fun s2 A2 f2 => ?_)
  have g2 := FRL_t f1 f2
  simp [own_x61, ou_a]
  refine lp58 g2.1 (fun s3 A3 f3 => ?_)
  have g3 := FRL_t g2 f3
  have e3 : A3 3 = A 3 := g3.2.2 3 (by decide) (by decide)
  simp [e3, qb, hv, own_x61, ou_a]
  refine pn60 v0 v1 g3.1 (fun s4 A4 f4 => ?_)
  have g4 := FRL_t g3 f4
  simp [own_x61, ou_a]
  refine lp58 g4.1 (fun s5 A5 f5 => ?_)
  try simp [own_x61, ou_a]
  exact hQ s5 A5 (FRL_t g4 f5)
end List
def own_xa := And.intro (And.intro (And.intro (And.intro (And.intro (And.intro @m71_23 @m71_25) (And.intro @m71_28 @m71_31)) (And.intro (And.intro @m71_32 @m71_34) (And.intro @m71_37 @m71_40))) (And.intro (And.intro (And.intro @m71_41 @m71_43) (And.intro @m71_46 @m71_49)) (And.intro (And.intro @m71_50 @m71_52) (And.intro @m71_55 @m71_58)))) (And.intro (And.intro (And.intro (And.intro @m71_59 @m71_60) (And.intro @m71_63 @m71_65)) (And.intro (And.intro @m71_67 @m71_69) (And.intro @m71_72 @m71_73))) (And.intro (And.intro (And.intro @m71_75 @m71_78) (And.intro @m71_80 @m71_82)) (And.intro (And.intro @m71_84 @m71_87) (And.intro @m71_88 (And.intro @m71_90 @m71_93)))))) (And.intro (And.intro (And.intro (And.intro (And.intro @m71_96 @m71_97) (And.intro @m71_99 @m71_102)) (And.intro (And.intro @m71_105 @m71_106) (And.intro @m71_108 @m71_111))) (And.intro (And.intro (And.intro @m71_114 @m71_115) (And.intro @m71_117 @m5_0)) (And.intro (And.intro @m5_1 @m5_4) (And.intro @m5_6 (And.intro @m5_13 @m5_20))))) (And.intro (And.intro (And.intro (And.intro @m5_27 @m5_28) (And.intro @m5_31 @m5_37)) (And.intro (And.intro @m5_44 @m5_65) (And.intro @m5_72 @m5_73))) (And.intro (And.intro (And.intro @m5_76 @m5_119) (And.intro @m5_124 @m5_129)) (And.intro (And.intro @m5_137 @m5_145) (And.intro @m5_146 (And.intro @m5_149 @m5_153))))))
def own_xb := And.intro (And.intro (And.intro (And.intro (And.intro (And.intro (And.intro @m71_120 @m71_121) (And.intro @m71_126 @m71_128)) (And.intro (And.intro @m71_130 @m71_133u) (And.intro @m71_135 (And.intro @m71_142 @m71_144)))) (And.intro (And.intro (And.intro @m71_148 @m71_151u) (And.intro @m71_153 (And.intro @m71_160 @m71_162))) (And.intro (And.intro @m71_164 @m71_167) (And.intro @m71_172 (And.intro @m71_177 @m71_179))))) (And.intro (And.intro (And.intro (And.intro @m71_183 @m71_186) (And.intro @m71_189 @m71_194)) (And.intro (And.intro @m71_196 @m71_200) (And.intro @m71_203 (And.intro @m71_207 @m71_212)))) (And.intro (And.intro (And.intro @m71_214 @m71_218) (And.intro @m71_221 (And.intro @m71_222 @m71_227))) (And.intro (And.intro @m71_229 @m71_232) (And.intro @m71_236 (And.intro @m71_241 @m71_243)))))) (And.intro (And.intro (And.intro (And.intro (And.intro @m71_246 @m71_247) (And.intro @m71_252 @m71_254)) (And.intro (And.intro @m71_255 @m71_258) (And.intro @m71_261 (And.intro @m71_263 @m71_264)))) (And.intro (And.intro (And.intro @m71_267 @m71_269) (And.intro @m71_272 (And.intro @m71_274 @m71_275))) (And.intro (And.intro @m71_278 @m71_282) (And.intro @m71_287 (And.intro @m71_289 @m71_291))))) (And.intro (And.intro (And.intro (And.intro @m71_294 @m71_296) (And.intro @m71_299 (And.intro @m71_301 @m71_303))) (And.intro (And.intro @m71_306 @m71_308) (And.intro @m71_313 (And.intro @m71_315 @m71_317)))) (And.intro (And.intro (And.intro @m71_320 @m71_322) (And.intro @m71_325 (And.intro @m71_327 @m71_329))) (And.intro (And.intro @m71_332 @m71_334) (And.intro @m71_339 (And.intro @m71_341 @m71_344))))))) (And.intro (And.intro (And.intro (And.intro (And.intro (And.intro @m71_345 @m71_348) (And.intro @m71_350 @m71_353)) (And.intro (And.intro @m71_356 @m71_361) (And.intro @m70_0 (And.intro @m70_6 @m70_7)))) (And.intro (And.intro (And.intro @m70_8 @m70_11) (And.intro @m70_15 (And.intro @m70_18 @m70_25))) (And.intro (And.intro @m70_26 @m70_27) (And.intro @m70_28 (And.intro @m70_31 @m70_34))))) (And.intro (And.intro (And.intro (And.intro @m70_39 @m70_40) (And.intro @m70_43 (And.intro @m70_46u @m70_47))) (And.intro (And.intro @m70_56 @m70_63) (And.intro @m62_0 (And.intro @m62_4 @m62_6)))) (And.intro (And.intro (And.intro @m62_9 @m62_12) (And.intro @m62_20 (And.intro @m62_26 @m63_0))) (And.intro (And.intro @m63_8 @m63_16) (And.intro @m64_0 (And.intro @m64_8 @m64_16)))))) (And.intro (And.intro (And.intro (And.intro (And.intro @m65_0 @m65_4) (And.intro @m65_6 @m65_9)) (And.intro (And.intro @m65_12 @m65_20) (And.intro @m65_26 (And.intro @m66_0 @m66_4)))) (And.intro (And.intro (And.intro @m66_6 @m66_9) (And.intro @m66_12 (And.intro @m66_20 @m66_27))) (And.intro (And.intro @m66_30u @m66_31) (And.intro @m66_35 (And.intro @m66_42 @m66_49))))) (And.intro (And.intro (And.intro (And.intro @m66_51 @m66_54) (And.intro @m67_0 (And.intro @m67_8 @m67_16))) (And.intro (And.intro @m68_0 @m68_15) (And.intro @m68_16 (And.intro @m56_0 @m56_1)))) (And.intro (And.intro (And.intro @m56_2 @m56_8) (And.intro @m56_15 (And.intro @m56_21 @m56_25))) (And.intro (And.intro @m56_26 @m56_35) (And.intro @m56_37 (And.intro @m57_0 @m57_16)))))))
def own_pk (v : Int32) : Int64 := (8269 : Int64) ||| (48 + v / 100).toInt64 <<< (16 : Int64) ||| (48 + v / 10 % 10).toInt64 <<< (24 : Int64) ||| (48 + v % 10).toInt64 <<< (32 : Int64) ||| (10995116277760 : Int64)
theorem own_j1 : (16 : Int64) &&& 63 = 16 ∧ (24 : Int64) &&& 63 = 24 ∧ (32 : Int64) &&& 63 = 32 := by decide
theorem own_cl {v : Int32} {H : AHeap} {Q : Option Value → AHeap → Prop} : M69 0 [.val (.int v), .unset, .unset] [] H Q = Q (some (.long (own_pk v))) H := by
  unfold own_pk
  simp [own_j1, -Int64.toInt32_and, -Int64.toInt32_or, -Int64.toInt32_xor, -Int32.toInt64_and, -Int32.toInt64_or, -Int32.toInt64_xor, -Int32.toInt8_and, -Int32.toUInt32_and, -Int32.toUInt32_or, -Int32.toUInt32_xor, own_t0, own_t1, own_t2, own_t3, own_t4, own_t5, m69_0, m69_3, m69_4, m69_10, m69_11, m69_12, m69_13, m69_15, m69_16, m69_17, m69_18, m69_24, m69_25, m69_27, m69_28, m69_29, m69_30, m69_32, m69_33, m69_34, m69_35, m69_41, m69_42, m69_43, m69_44, m69_46, m69_47, m69_48, m69_49, m69_54, nb0, nb1, ou_a, Option.toList_some, Option.toList_none, List.nil_append, List.cons_append]
theorem dg_f : ∀ k : Fin 512, DG (48 + Int32.ofNat k.val / 100) (48 + Int32.ofNat k.val / 10 % 10) (48 + Int32.ofNat k.val % 10) (Int32.ofNat k.val) := by
  simp only [DG]
  decide +kernel
theorem wb_f : ∀ k : Fin 512, WB (own_pk (Int32.ofNat k.val)) (48 + Int32.ofNat k.val / 100) (48 + Int32.ofNat k.val / 10 % 10) (48 + Int32.ofNat k.val % 10) := by
  simp only [WB, own_pk]
  decide +kernel
theorem cs_f : ∀ k : Fin 512, (15 < Int32.ofNat k.val → CL (Int32.ofNat k.val)) ∧ (¬ 15 < Int32.ofNat k.val → CS (Int32.ofNat k.val)) := by
  simp only [CS, CL]
  decide +kernel
theorem p_f (x : Int32) : ∃ k : Fin 512, x &&& 511 = Int32.ofNat k.val := by
  have b := and_bd x 511 (by decide)
  have c : (x &&& 511).toInt ≤ 511 := b.2
  obtain ⟨k, hk, e⟩ := rng (n := 512) b.1 (by omega)
  exact ⟨⟨k, hk⟩, e⟩
def own_eSS (s : Nat → Int32) (A : Nat → List Int32) (L : Nat → Int64) (B : Nat → List Int64) (c2 c3 c4 d2 d3 d4 P R K : Int32) : Prop := LN A ∧ LNB B ∧ getA (A 3) 0 = (16 + P) ∧ getA (A 3) 1 = (16 + R) ∧ getA (A 3) 2 = 97 ∧ getA (A 3) 3 = 133 ∧ getA (A 3) 4 = 5 ∧ getA (A 3) 5 = 1 ∧ getA (A 4) 0 = 0 ∧ getA (A 4) 1 = 1 ∧ getA (A 4) 2 = 5 ∧ getL (B 0) 0 = 1257393 ∧ getL (B 0) 1 = 1257394 ∧ getL (B 0) 2 = 69 ∧ s 24 = 1 ∧ s 26 = 6 ∧ s 27 = 2 ∧ s 28 = 3
theorem own_fSS {s s' : Nat → Int32} {A A' : Nat → List Int32} {L : Nat → Int64} {B : Nat → List Int64} {c2 c3 c4 d2 d3 d4 P R K : Int32} (h : own_eSS s A L B c2 c3 c4 d2 d3 d4 P R K) (f : FRL s A s' A') : own_eSS s' A' L B c2 c3 c4 d2 d3 d4 P R K := by
  unfold own_eSS at *
  obtain ⟨hA, hB, h⟩ := h
  refine ⟨f.1.1, hB, ?_⟩
  rw [f.2.1 24 (by decide) (by decide), f.2.1 26 (by decide) (by decide), f.2.1 27 (by decide) (by decide), f.2.1 28 (by decide) (by decide), f.2.2 3 (by decide) (by decide), f.2.2 4 (by decide) (by decide)]
  exact h
set_option maxRecDepth 1000000 in
set_option maxHeartbeats 20000000 in
theorem own_bSS {s : Nat → Int32} {A : Nat → List Int32} {L : Nat → Int64} {B : Nat → List Int64} {c2 c3 c4 d2 d3 d4 P R K : Int32} {Q : Option Value → AHeap → Prop} (hp : CS P) (hr : CS R) (h : own_eSS s A L B c2 c3 c4 d2 d3 d4 P R K) (hQ : ∀ s' A', own_eSS s' A' L B c2 c3 c4 d2 d3 d4 P R K → Q none (put 0 [] s' A' L B [])) : M54 0 [.val (.ref 0), .unset, .unset] [] (put 0 [] s A L B []) Q := by
  unfold CS at hp
  unfold CS at hr
  have h0 : own_eSS (ou s 29 0) A L B c2 c3 c4 d2 d3 d4 P R K := by
    unfold own_eSS at *
    exact h
  have f0 : OKL (ou s 29 0) A := ⟨h.1, by show 0 ≤ (0 : Int32).toInt; decide, by show (0 : Int32).toInt ≤ 624; decide⟩
  simp [m54_0, m54_5, nb0, nb1, ou_a, Option.toList_some, Option.toList_none, List.nil_append, List.cons_append]
  have e0 := h0
  unfold own_eSS at e0
  obtain ⟨a0, b0, e0⟩ := e0
  have bl0 := bL a0
  refine sl54 (i := 0) (v := 0) f0 b0 (by simp [e0]) (by decide) (by decide) (by simp [e0]) (by decide) (by decide) (fun s1 A1 f1 => ?_)
  have h1 := own_fSS h0 f1
  have e1 := h1
  unfold own_eSS at e1
  obtain ⟨a1, b1, e1⟩ := e1
  have bl1 := bL a1
  refine sl54 (i := 0 + 1) (v := 1) f1.1 b1 (by simp [e1]) (by decide) (by decide) (by simp [e1]) (by decide) (by decide) (fun s2 A2 f2 => ?_)
  have h2 := own_fSS h1 f2
  have e2 := h2
  unfold own_eSS at e2
  obtain ⟨a2, b2, e2⟩ := e2
  have bl2 := bL a2
  refine sl54 (i := 0 + 1 + 1) (v := 5) f2.1 b2 (by simp [e2]) (by decide) (by decide) (by simp [e2]) (by decide) (by decide) (fun s3 A3 f3 => ?_)
  have h3 := own_fSS h2 f3
  have e3 := h3
  unfold own_eSS at e3
  obtain ⟨a3, b3, e3⟩ := e3
  have bl3 := bL a3
  rw [m54_7]
  simp [e3, own_x54, ou_a]
  rw [m54_75]
  simp [e3, own_x54, ou_a]
  refine lo2_4 (a := 0) (b := 16 + P) (v := P) f3.1 (by simp [inB_iff, bl3]) (by simp [e3]) (by simp [hp, hr]) (by simp [hp, hr]) (by simp [hp, hr]) (by simp [hp, hr]) (by simp [hp, hr]) (by simp [hp, hr]) (by simp [hp, hr]) (by simp [hp, hr]) (fun s4 A4 f4 => ?_)
  simp [own_x54, ou_a]
  have h4 := own_fSS h3 f4
  have e4 := h4
  unfold own_eSS at e4
  obtain ⟨a4, b4, e4⟩ := e4
  have bl4 := bL a4
  rw [m54_75]
  simp [e4, own_x54, ou_a]
  refine lo2_4 (a := 1) (b := 16 + R) (v := R) f4.1 (by simp [inB_iff, bl4]) (by simp [e4]) (by simp [hp, hr]) (by simp [hp, hr]) (by simp [hp, hr]) (by simp [hp, hr]) (by simp [hp, hr]) (by simp [hp, hr]) (by simp [hp, hr]) (by simp [hp, hr]) (fun s5 A5 f5 => ?_)
  simp [own_x54, ou_a]
  have h5 := own_fSS h4 f5
  have e5 := h5
  unfold own_eSS at e5
  obtain ⟨a5, b5, e5⟩ := e5
  have bl5 := bL a5
  rw [m54_75]
  simp [e5, own_x54, ou_a]
  refine lo2_9 (a := 2) (b := 97) (v := 1) f5.1 (by simp [inB_iff, bl5]) (by simp [e5]) (by decide) (by decide) (by decide) (by decide) (by decide) (by decide) (by decide) (by decide) (fun s6 A6 f6 => ?_)
  simp [own_x54, ou_a]
  have h6 := own_fSS h5 f6
  have e6 := h6
  unfold own_eSS at e6
  obtain ⟨a6, b6, e6⟩ := e6
  have bl6 := bL a6
  rw [m54_75]
  simp [e6, own_x54, ou_a]
  refine lo3_8 (a := 3) (v := 5) f6.1 (by simp [inB_iff, bl6]) (by simp [inB_iff, bl6]) (by simp [e6]) (by simp [e6]) (by decide) (by simp [e6]) (by decide) (by decide) (fun s7 A7 f7 => ?_)
  simp [own_x54, ou_a]
  have h7 := own_fSS h6 f7
  have e7 := h7
  unfold own_eSS at e7
  obtain ⟨a7, b7, e7⟩ := e7
  have bl7 := bL a7
  rw [m54_75]
  simp [e7, own_x54, ou_a]
  refine lo1 (a := 5) f7.1 (by simp [inB_iff, bl7]) (by simp [e7]) (fun s8 A8 f8 => ?_)
  simp [own_x54, ou_a]
  have h8 := own_fSS h7 f8
  have e8 := h8
  unfold own_eSS at e8
  obtain ⟨a8, b8, e8⟩ := e8
  have bl8 := bL a8
  rw [m54_75]
  simp [e8, own_x54, ou_a]
  exact hQ _ _ h8
set_option maxRecDepth 1000000 in
set_option maxHeartbeats 20000000 in
theorem own_wSS {s : Nat → Int32} {A : Nat → List Int32} {L : Nat → Int64} {B : Nat → List Int64} {c2 c3 c4 d2 d3 d4 P R K i0 i1 i2 : Int32} {Q : Option Value → AHeap → Prop} (hd : DG c2 c3 c4 P) (he : DG d2 d3 d4 R) (hk : DK K) (hp : CS P) (hr : CS R) (w0 : WB (own_pk P) c2 c3 c4) (w1 : WB (own_pk R) d2 d3 d4) (h : own_s0 s A L B c2 c3 c4 d2 d3 d4 P R K) (hQ : ∀ s' A' L' B', LN A' → LNB B' → Q (some (.int 1)) (put 0 [] s' A' L' B' [])) : M71 23 [.val (.int i0), .val (.int i1), .val (.int i2), .val (.int P), .val (.int R), .val (.ref 0), .unset, .unset, .unset, .unset] [] (put 0 [] s A L B []) Q := by
  simp [own_cl, own_xa, ou_a]
  refine own_u0 hd he hk h (fun s A L B h => ?_)
  simp [own_cl, own_xa, ou_a]
  refine own_u1 hd he hk h (fun s A L B h => ?_)
  simp [own_cl, own_xa, ou_a]
  refine own_u2 hd he hk h (fun s A L B h => ?_)
  simp [own_cl, own_xa, ou_a]
  refine own_u3 hd he hk h (fun s A L B h => ?_)
  simp [own_cl, own_xa, ou_a]
  refine own_u4 w0 hd he hk h (fun s A L B h => ?_)
  simp [own_cl, own_xa, ou_a]
  refine own_u5 w1 hd he hk h (fun s A L B h => ?_)
  simp [own_cl, own_xa, ou_a]
  refine own_u6 hd he hk h (fun s A L B h => ?_)
  simp [own_cl, own_xa, ou_a]
  refine own_u7 hd he hk h (fun s A L B h => ?_)
  simp [own_cl, own_xa, ou_a]
  refine own_u8 hd he hk h (fun s A L B h => ?_)
  simp [own_cl, own_xa, ou_a]
  refine own_u9 hd he hk h (fun s A L B h => ?_)
  have g := h
  unfold own_s19 own_g0 own_g1 own_g2 own_g3 own_g4 own_g5 own_g6 own_g7 at g
  obtain ⟨gA, gB, g⟩ := g
  simp [g, own_cl, own_xa, ou_a]
  clear g
  refine own_u10 hd he hk h (fun s A L B h => ?_)
  have g := h
  unfold own_s21 own_g1 own_g2 own_g3 own_g4 own_g5 own_g6 own_g7 at g
  obtain ⟨gA, gB, g⟩ := g
  simp [g, own_cl, own_xa, ou_a]
  clear g
  refine own_u11 hd he hk h (fun s A L B h => ?_)
  have g := h
  unfold own_s23 own_g1 own_g2 own_g3 own_g4 own_g5 own_g6 own_g7 at g
  obtain ⟨gA, gB, g⟩ := g
  simp [g, own_cl, own_xa, ou_a]
  clear g
  refine own_u12 hd he hk h (fun s A L B h => ?_)
  have g := h
  unfold own_s25 own_g1 own_g3 own_g4 own_g5 own_g6 own_g7 at g
  obtain ⟨gA, gB, g⟩ := g
  simp [g, own_cl, own_xa, ou_a]
  clear g
  refine own_u13 hd he hk h (fun s A L B h => ?_)
  have g := h
  unfold own_s27 own_g1 own_g4 own_g5 own_g6 own_g7 own_g8 at g
  obtain ⟨gA, gB, g⟩ := g
  simp [g, own_cl, own_xa, ou_a]
  clear g
  refine own_u14S hd he hk hp h (fun s A L B h => ?_)
  have g := h
  unfold own_s29S own_g1 own_g4 own_g5 own_g6 own_g7 own_g8 at g
  obtain ⟨gA, gB, g⟩ := g
  simp [g, own_cl, own_xa, ou_a]
  clear g
  refine own_u15S hd he hk hp h (fun s A L B h => ?_)
  have g := h
  unfold own_s31S own_g1 own_g4 own_g5 own_g6 own_g7 at g
  obtain ⟨gA, gB, g⟩ := g
  simp [g, own_cl, own_xa, ou_a]
  clear g
  refine own_u16S hd he hk hp h (fun s A L B h => ?_)
  have g := h
  unfold own_s33S own_g1 own_g5 own_g6 own_g7 own_g8 own_g9 at g
  obtain ⟨gA, gB, g⟩ := g
  simp [g, own_cl, own_xa, ou_a]
  clear g
  refine own_u17SS hd he hk hp hr h (fun s A L B h => ?_)
  have g := h
  unfold own_s35SS own_g5 own_g6 own_g7 own_g8 at g
  obtain ⟨gA, gB, g⟩ := g
  simp [g, own_cl, own_xa, ou_a]
  clear g
  refine own_u18SS hd he hk hp hr h (fun s A L B h => ?_)
  have g := h
  unfold own_s37SS own_g5 own_g6 own_g7 at g
  obtain ⟨gA, gB, g⟩ := g
  simp [g, own_cl, own_xa, ou_a]
  clear g
  refine own_u19SS hd he hk hp hr h (fun s A L B h => ?_)
  have g := h
  unfold own_s39SS own_g6 own_g7 at g
  obtain ⟨gA, gB, g⟩ := g
  simp [g, own_cl, own_xa, ou_a]
  clear g
  refine own_u20SS hd he hk hp hr h (fun s A L B h => ?_)
  have g := h
  unfold own_s41SS own_g7 own_g10 at g
  obtain ⟨gA, gB, g⟩ := g
  simp [g, own_cl, own_xa, ou_a]
  clear g
  refine own_u21SS hd he hk hp hr h (fun s A L B h => ?_)
  have g := h
  unfold own_s43SS own_g10 at g
  obtain ⟨gA, gB, g⟩ := g
  simp [g, own_cl, own_xa, ou_a]
  clear g
  refine own_u22SS hd he hk hp hr h (fun s A L B h => ?_)
  have g := h
  unfold own_s45SS own_g10 at g
  obtain ⟨gA, gB, g⟩ := g
  simp [g, own_cl, own_xa, ou_a]
  clear g
  refine own_u23SS hd he hk hp hr h (fun s A L B h => ?_)
  have g := h
  unfold own_s47SS at g
  obtain ⟨gA, gB, g⟩ := g
  simp [g, own_cl, own_xa, ou_a]
  refine own_bSS (c2 := c2) (c3 := c3) (c4 := c4) (d2 := d2) (d3 := d3) (d4 := d4) (K := K) hp hr ?_ (fun s' A' h' => ?_)
  · unfold own_eSS
    refine ⟨gA, gB, ?_⟩
    simp [g, ou_a]
  · unfold own_eSS at h'
    obtain ⟨hA, hB, e⟩ := h'
    have bl := bL hA
    have bb := bB hB
    unfold CS at hp
    unfold CS at hr
    simp (maxSteps := 10000000) [e, hp, hr, bl, bb, inB_iff, XT.cmpL, own_t0, own_t1, own_t2, own_t3, own_t4, own_t5, own_xa, own_xb, own_sh0, -Int64.toInt32_and, -Int64.toInt32_or, -Int64.toInt32_xor, -Int32.toInt64_and, -Int32.toInt64_or, -Int32.toInt64_xor, -Int32.toInt8_and, -Int32.toUInt32_and, -Int32.toUInt32_or, -Int32.toUInt32_xor, nb0, nb1, ou_a, Option.toList_some, Option.toList_none, List.nil_append, List.cons_append]
    exact hQ _ _ _ _ hA hB
def own_eSL (s : Nat → Int32) (A : Nat → List Int32) (L : Nat → Int64) (B : Nat → List Int64) (c2 c3 c4 d2 d3 d4 P R K : Int32) : Prop := LN A ∧ LNB B ∧ getA (A 3) 0 = (16 + P) ∧ getA (A 3) 1 = 129 ∧ getA (A 3) 2 = (R &&& 255) ∧ getA (A 3) 3 = 97 ∧ getA (A 3) 4 = 133 ∧ getA (A 3) 5 = 6 ∧ getA (A 3) 6 = 1 ∧ getA (A 4) 0 = 0 ∧ getA (A 4) 1 = 1 ∧ getA (A 4) 2 = 6 ∧ getL (B 0) 0 = 1257393 ∧ getL (B 0) 1 = 1257394 ∧ getL (B 0) 2 = 69 ∧ s 24 = 1 ∧ s 26 = 7 ∧ s 27 = 2 ∧ s 28 = 3
theorem own_fSL {s s' : Nat → Int32} {A A' : Nat → List Int32} {L : Nat → Int64} {B : Nat → List Int64} {c2 c3 c4 d2 d3 d4 P R K : Int32} (h : own_eSL s A L B c2 c3 c4 d2 d3 d4 P R K) (f : FRL s A s' A') : own_eSL s' A' L B c2 c3 c4 d2 d3 d4 P R K := by
  unfold own_eSL at *
  obtain ⟨hA, hB, h⟩ := h
  refine ⟨f.1.1, hB, ?_⟩
  rw [f.2.1 24 (by decide) (by decide), f.2.1 26 (by decide) (by decide), f.2.1 27 (by decide) (by decide), f.2.1 28 (by decide) (by decide), f.2.2 3 (by decide) (by decide), f.2.2 4 (by decide) (by decide)]
  exact h
set_option maxRecDepth 1000000 in
set_option maxHeartbeats 20000000 in
theorem own_bSL {s : Nat → Int32} {A : Nat → List Int32} {L : Nat → Int64} {B : Nat → List Int64} {c2 c3 c4 d2 d3 d4 P R K : Int32} {Q : Option Value → AHeap → Prop} (hp : CS P) (hr : CL R) (h : own_eSL s A L B c2 c3 c4 d2 d3 d4 P R K) (hQ : ∀ s' A', own_eSL s' A' L B c2 c3 c4 d2 d3 d4 P R K → Q none (put 0 [] s' A' L B [])) : M54 0 [.val (.ref 0), .unset, .unset] [] (put 0 [] s A L B []) Q := by
  unfold CS at hp
  unfold CL at hr
  have h0 : own_eSL (ou s 29 0) A L B c2 c3 c4 d2 d3 d4 P R K := by
    unfold own_eSL at *
    exact h
  have f0 : OKL (ou s 29 0) A := ⟨h.1, by show 0 ≤ (0 : Int32).toInt; decide, by show (0 : Int32).toInt ≤ 624; decide⟩
  simp [m54_0, m54_5, nb0, nb1, ou_a, Option.toList_some, Option.toList_none, List.nil_append, List.cons_append]
  have e0 := h0
  unfold own_eSL at e0
  obtain ⟨a0, b0, e0⟩ := e0
  have bl0 := bL a0
  refine sl54 (i := 0) (v := 0) f0 b0 (by simp [e0]) (by decide) (by decide) (by simp [e0]) (by decide) (by decide) (fun s1 A1 f1 => ?_)
  have h1 := own_fSL h0 f1
  have e1 := h1
  unfold own_eSL at e1
  obtain ⟨a1, b1, e1⟩ := e1
  have bl1 := bL a1
  refine sl54 (i := 0 + 1) (v := 1) f1.1 b1 (by simp [e1]) (by decide) (by decide) (by simp [e1]) (by decide) (by decide) (fun s2 A2 f2 => ?_)
  have h2 := own_fSL h1 f2
  have e2 := h2
  unfold own_eSL at e2
  obtain ⟨a2, b2, e2⟩ := e2
  have bl2 := bL a2
  refine sl54 (i := 0 + 1 + 1) (v := 6) f2.1 b2 (by simp [e2]) (by decide) (by decide) (by simp [e2]) (by decide) (by decide) (fun s3 A3 f3 => ?_)
  have h3 := own_fSL h2 f3
  have e3 := h3
  unfold own_eSL at e3
  obtain ⟨a3, b3, e3⟩ := e3
  have bl3 := bL a3
  rw [m54_7]
  simp [e3, own_x54, ou_a]
  rw [m54_75]
  simp [e3, own_x54, ou_a]
  refine lo2_4 (a := 0) (b := 16 + P) (v := P) f3.1 (by simp [inB_iff, bl3]) (by simp [e3]) (by simp [hp, hr]) (by simp [hp, hr]) (by simp [hp, hr]) (by simp [hp, hr]) (by simp [hp, hr]) (by simp [hp, hr]) (by simp [hp, hr]) (by simp [hp, hr]) (fun s4 A4 f4 => ?_)
  simp [own_x54, ou_a]
  have h4 := own_fSL h3 f4
  have e4 := h4
  unfold own_eSL at e4
  obtain ⟨a4, b4, e4⟩ := e4
  have bl4 := bL a4
  rw [m54_75]
  simp [e4, own_x54, ou_a]
  refine lo3_4 (a := 1) (v := (R &&& 255)) f4.1 (by simp [inB_iff, bl4]) (by simp [inB_iff, bl4]) (by simp [e4]) (by simp [e4]) (by decide) (by simp [e4]) (by simp [hp, hr]) (by simp [hp, hr]) (fun s5 A5 f5 => ?_)
  simp [own_x54, ou_a]
  have h5 := own_fSL h4 f5
  have e5 := h5
  unfold own_eSL at e5
  obtain ⟨a5, b5, e5⟩ := e5
  have bl5 := bL a5
  rw [m54_75]
  simp [e5, own_x54, ou_a]
  refine lo2_9 (a := 3) (b := 97) (v := 1) f5.1 (by simp [inB_iff, bl5]) (by simp [e5]) (by decide) (by decide) (by decide) (by decide) (by decide) (by decide) (by decide) (by decide) (fun s6 A6 f6 => ?_)
  simp [own_x54, ou_a]
  have h6 := own_fSL h5 f6
  have e6 := h6
  unfold own_eSL at e6
  obtain ⟨a6, b6, e6⟩ := e6
  have bl6 := bL a6
  rw [m54_75]
  simp [e6, own_x54, ou_a]
  refine lo3_8 (a := 4) (v := 6) f6.1 (by simp [inB_iff, bl6]) (by simp [inB_iff, bl6]) (by simp [e6]) (by simp [e6]) (by decide) (by simp [e6]) (by decide) (by decide) (fun s7 A7 f7 => ?_)
  simp [own_x54, ou_a]
  have h7 := own_fSL h6 f7
  have e7 := h7
  unfold own_eSL at e7
  obtain ⟨a7, b7, e7⟩ := e7
  have bl7 := bL a7
  rw [m54_75]
  simp [e7, own_x54, ou_a]
  refine lo1 (a := 6) f7.1 (by simp [inB_iff, bl7]) (by simp [e7]) (fun s8 A8 f8 => ?_)
  simp [own_x54, ou_a]
  have h8 := own_fSL h7 f8
  have e8 := h8
  unfold own_eSL at e8
  obtain ⟨a8, b8, e8⟩ := e8
  have bl8 := bL a8
  rw [m54_75]
  simp [e8, own_x54, ou_a]
  exact hQ _ _ h8
set_option maxRecDepth 1000000 in
set_option maxHeartbeats 20000000 in
theorem own_wSL {s : Nat → Int32} {A : Nat → List Int32} {L : Nat → Int64} {B : Nat → List Int64} {c2 c3 c4 d2 d3 d4 P R K i0 i1 i2 : Int32} {Q : Option Value → AHeap → Prop} (hd : DG c2 c3 c4 P) (he : DG d2 d3 d4 R) (hk : DK K) (hp : CS P) (hr : CL R) (w0 : WB (own_pk P) c2 c3 c4) (w1 : WB (own_pk R) d2 d3 d4) (h : own_s0 s A L B c2 c3 c4 d2 d3 d4 P R K) (hQ : ∀ s' A' L' B', LN A' → LNB B' → Q (some (.int 1)) (put 0 [] s' A' L' B' [])) : M71 23 [.val (.int i0), .val (.int i1), .val (.int i2), .val (.int P), .val (.int R), .val (.ref 0), .unset, .unset, .unset, .unset] [] (put 0 [] s A L B []) Q := by
  simp [own_cl, own_xa, ou_a]
  refine own_u0 hd he hk h (fun s A L B h => ?_)
  simp [own_cl, own_xa, ou_a]
  refine own_u1 hd he hk h (fun s A L B h => ?_)
  simp [own_cl, own_xa, ou_a]
  refine own_u2 hd he hk h (fun s A L B h => ?_)
  simp [own_cl, own_xa, ou_a]
  refine own_u3 hd he hk h (fun s A L B h => ?_)
  simp [own_cl, own_xa, ou_a]
  refine own_u4 w0 hd he hk h (fun s A L B h => ?_)
  simp [own_cl, own_xa, ou_a]
  refine own_u5 w1 hd he hk h (fun s A L B h => ?_)
  simp [own_cl, own_xa, ou_a]
  refine own_u6 hd he hk h (fun s A L B h => ?_)
  simp [own_cl, own_xa, ou_a]
  refine own_u7 hd he hk h (fun s A L B h => ?_)
  simp [own_cl, own_xa, ou_a]
  refine own_u8 hd he hk h (fun s A L B h => ?_)
  simp [own_cl, own_xa, ou_a]
  refine own_u9 hd he hk h (fun s A L B h => ?_)
  have g := h
  unfold own_s19 own_g0 own_g1 own_g2 own_g3 own_g4 own_g5 own_g6 own_g7 at g
  obtain ⟨gA, gB, g⟩ := g
  simp [g, own_cl, own_xa, ou_a]
  clear g
  refine own_u10 hd he hk h (fun s A L B h => ?_)
  have g := h
  unfold own_s21 own_g1 own_g2 own_g3 own_g4 own_g5 own_g6 own_g7 at g
  obtain ⟨gA, gB, g⟩ := g
  simp [g, own_cl, own_xa, ou_a]
  clear g
  refine own_u11 hd he hk h (fun s A L B h => ?_)
  have g := h
  unfold own_s23 own_g1 own_g2 own_g3 own_g4 own_g5 own_g6 own_g7 at g
  obtain ⟨gA, gB, g⟩ := g
  simp [g, own_cl, own_xa, ou_a]
  clear g
  refine own_u12 hd he hk h (fun s A L B h => ?_)
  have g := h
  unfold own_s25 own_g1 own_g3 own_g4 own_g5 own_g6 own_g7 at g
  obtain ⟨gA, gB, g⟩ := g
  simp [g, own_cl, own_xa, ou_a]
  clear g
  refine own_u13 hd he hk h (fun s A L B h => ?_)
  have g := h
  unfold own_s27 own_g1 own_g4 own_g5 own_g6 own_g7 own_g8 at g
  obtain ⟨gA, gB, g⟩ := g
  simp [g, own_cl, own_xa, ou_a]
  clear g
  refine own_u14S hd he hk hp h (fun s A L B h => ?_)
  have g := h
  unfold own_s29S own_g1 own_g4 own_g5 own_g6 own_g7 own_g8 at g
  obtain ⟨gA, gB, g⟩ := g
  simp [g, own_cl, own_xa, ou_a]
  clear g
  refine own_u15S hd he hk hp h (fun s A L B h => ?_)
  have g := h
  unfold own_s31S own_g1 own_g4 own_g5 own_g6 own_g7 at g
  obtain ⟨gA, gB, g⟩ := g
  simp [g, own_cl, own_xa, ou_a]
  clear g
  refine own_u16S hd he hk hp h (fun s A L B h => ?_)
  have g := h
  unfold own_s33S own_g1 own_g5 own_g6 own_g7 own_g8 own_g9 at g
  obtain ⟨gA, gB, g⟩ := g
  simp [g, own_cl, own_xa, ou_a]
  clear g
  refine own_u17SL hd he hk hp hr h (fun s A L B h => ?_)
  have g := h
  unfold own_s35SL own_g5 own_g6 own_g7 own_g8 at g
  obtain ⟨gA, gB, g⟩ := g
  simp [g, own_cl, own_xa, ou_a]
  clear g
  refine own_u18SL hd he hk hp hr h (fun s A L B h => ?_)
  have g := h
  unfold own_s37SL own_g5 own_g6 own_g7 at g
  obtain ⟨gA, gB, g⟩ := g
  simp [g, own_cl, own_xa, ou_a]
  clear g
  refine own_u19SL hd he hk hp hr h (fun s A L B h => ?_)
  have g := h
  unfold own_s39SL own_g6 own_g7 at g
  obtain ⟨gA, gB, g⟩ := g
  simp [g, own_cl, own_xa, ou_a]
  clear g
  refine own_u20SL hd he hk hp hr h (fun s A L B h => ?_)
  have g := h
  unfold own_s41SL own_g7 own_g10 at g
  obtain ⟨gA, gB, g⟩ := g
  simp [g, own_cl, own_xa, ou_a]
  clear g
  refine own_u21SL hd he hk hp hr h (fun s A L B h => ?_)
  have g := h
  unfold own_s43SL own_g10 at g
  obtain ⟨gA, gB, g⟩ := g
  simp [g, own_cl, own_xa, ou_a]
  clear g
  refine own_u22SL hd he hk hp hr h (fun s A L B h => ?_)
  have g := h
  unfold own_s45SL own_g10 at g
  obtain ⟨gA, gB, g⟩ := g
  simp [g, own_cl, own_xa, ou_a]
  clear g
  refine own_u23SL hd he hk hp hr h (fun s A L B h => ?_)
  have g := h
  unfold own_s47SL at g
  obtain ⟨gA, gB, g⟩ := g
  simp [g, own_cl, own_xa, ou_a]
  refine own_bSL (c2 := c2) (c3 := c3) (c4 := c4) (d2 := d2) (d3 := d3) (d4 := d4) (K := K) hp hr ?_ (fun s' A' h' => ?_)
  · unfold own_eSL
    refine ⟨gA, gB, ?_⟩
    simp [g, ou_a]
  · unfold own_eSL at h'
    obtain ⟨hA, hB, e⟩ := h'
    have bl := bL hA
    have bb := bB hB
    unfold CS at hp
    unfold CL at hr
    simp (maxSteps := 10000000) [e, hp, hr, bl, bb, inB_iff, XT.cmpL, own_t0, own_t1, own_t2, own_t3, own_t4, own_t5, own_xa, own_xb, own_sh0, -Int64.toInt32_and, -Int64.toInt32_or, -Int64.toInt32_xor, -Int32.toInt64_and, -Int32.toInt64_or, -Int32.toInt64_xor, -Int32.toInt8_and, -Int32.toUInt32_and, -Int32.toUInt32_or, -Int32.toUInt32_xor, nb0, nb1, ou_a, Option.toList_some, Option.toList_none, List.nil_append, List.cons_append]
    exact hQ _ _ _ _ hA hB
def own_eLS (s : Nat → Int32) (A : Nat → List Int32) (L : Nat → Int64) (B : Nat → List Int64) (c2 c3 c4 d2 d3 d4 P R K : Int32) : Prop := LN A ∧ LNB B ∧ getA (A 3) 0 = 129 ∧ getA (A 3) 1 = (P &&& 255) ∧ getA (A 3) 2 = (16 + R) ∧ getA (A 3) 3 = 98 ∧ getA (A 3) 4 = 133 ∧ getA (A 3) 5 = 6 ∧ getA (A 3) 6 = 1 ∧ getA (A 4) 0 = 0 ∧ getA (A 4) 1 = 2 ∧ getA (A 4) 2 = 6 ∧ getL (B 0) 0 = 1257393 ∧ getL (B 0) 1 = 1257394 ∧ getL (B 0) 2 = 69 ∧ s 24 = 1 ∧ s 26 = 7 ∧ s 27 = 2 ∧ s 28 = 3
theorem own_fLS {s s' : Nat → Int32} {A A' : Nat → List Int32} {L : Nat → Int64} {B : Nat → List Int64} {c2 c3 c4 d2 d3 d4 P R K : Int32} (h : own_eLS s A L B c2 c3 c4 d2 d3 d4 P R K) (f : FRL s A s' A') : own_eLS s' A' L B c2 c3 c4 d2 d3 d4 P R K := by
  unfold own_eLS at *
  obtain ⟨hA, hB, h⟩ := h
  refine ⟨f.1.1, hB, ?_⟩
  rw [f.2.1 24 (by decide) (by decide), f.2.1 26 (by decide) (by decide), f.2.1 27 (by decide) (by decide), f.2.1 28 (by decide) (by decide), f.2.2 3 (by decide) (by decide), f.2.2 4 (by decide) (by decide)]
  exact h
set_option maxRecDepth 1000000 in
set_option maxHeartbeats 20000000 in
theorem own_bLS {s : Nat → Int32} {A : Nat → List Int32} {L : Nat → Int64} {B : Nat → List Int64} {c2 c3 c4 d2 d3 d4 P R K : Int32} {Q : Option Value → AHeap → Prop} (hp : CL P) (hr : CS R) (h : own_eLS s A L B c2 c3 c4 d2 d3 d4 P R K) (hQ : ∀ s' A', own_eLS s' A' L B c2 c3 c4 d2 d3 d4 P R K → Q none (put 0 [] s' A' L B [])) : M54 0 [.val (.ref 0), .unset, .unset] [] (put 0 [] s A L B []) Q := by
  unfold CL at hp
  unfold CS at hr
  have h0 : own_eLS (ou s 29 0) A L B c2 c3 c4 d2 d3 d4 P R K := by
    unfold own_eLS at *
    exact h
  have f0 : OKL (ou s 29 0) A := ⟨h.1, by show 0 ≤ (0 : Int32).toInt; decide, by show (0 : Int32).toInt ≤ 624; decide⟩
  simp [m54_0, m54_5, nb0, nb1, ou_a, Option.toList_some, Option.toList_none, List.nil_append, List.cons_append]
  have e0 := h0
  unfold own_eLS at e0
  obtain ⟨a0, b0, e0⟩ := e0
  have bl0 := bL a0
  refine sl54 (i := 0) (v := 0) f0 b0 (by simp [e0]) (by decide) (by decide) (by simp [e0]) (by decide) (by decide) (fun s1 A1 f1 => ?_)
  have h1 := own_fLS h0 f1
  have e1 := h1
  unfold own_eLS at e1
  obtain ⟨a1, b1, e1⟩ := e1
  have bl1 := bL a1
  refine sl54 (i := 0 + 1) (v := 2) f1.1 b1 (by simp [e1]) (by decide) (by decide) (by simp [e1]) (by decide) (by decide) (fun s2 A2 f2 => ?_)
  have h2 := own_fLS h1 f2
  have e2 := h2
  unfold own_eLS at e2
  obtain ⟨a2, b2, e2⟩ := e2
  have bl2 := bL a2
  refine sl54 (i := 0 + 1 + 1) (v := 6) f2.1 b2 (by simp [e2]) (by decide) (by decide) (by simp [e2]) (by decide) (by decide) (fun s3 A3 f3 => ?_)
  have h3 := own_fLS h2 f3
  have e3 := h3
  unfold own_eLS at e3
  obtain ⟨a3, b3, e3⟩ := e3
  have bl3 := bL a3
  rw [m54_7]
  simp [e3, own_x54, ou_a]
  rw [m54_75]
  simp [e3, own_x54, ou_a]
  refine lo3_4 (a := 0) (v := (P &&& 255)) f3.1 (by simp [inB_iff, bl3]) (by simp [inB_iff, bl3]) (by simp [e3]) (by simp [e3]) (by decide) (by simp [e3]) (by simp [hp, hr]) (by simp [hp, hr]) (fun s4 A4 f4 => ?_)
  simp [own_x54, ou_a]
  have h4 := own_fLS h3 f4
  have e4 := h4
  unfold own_eLS at e4
  obtain ⟨a4, b4, e4⟩ := e4
  have bl4 := bL a4
  rw [m54_75]
  simp [e4, own_x54, ou_a]
  refine lo2_4 (a := 2) (b := 16 + R) (v := R) f4.1 (by simp [inB_iff, bl4]) (by simp [e4]) (by simp [hp, hr]) (by simp [hp, hr]) (by simp [hp, hr]) (by simp [hp, hr]) (by simp [hp, hr]) (by simp [hp, hr]) (by simp [hp, hr]) (by simp [hp, hr]) (fun s5 A5 f5 => ?_)
  simp [own_x54, ou_a]
  have h5 := own_fLS h4 f5
  have e5 := h5
  unfold own_eLS at e5
  obtain ⟨a5, b5, e5⟩ := e5
  have bl5 := bL a5
  rw [m54_75]
  simp [e5, own_x54, ou_a]
  refine lo2_9 (a := 3) (b := 98) (v := 2) f5.1 (by simp [inB_iff, bl5]) (by simp [e5]) (by decide) (by decide) (by decide) (by decide) (by decide) (by decide) (by decide) (by decide) (fun s6 A6 f6 => ?_)
  simp [own_x54, ou_a]
  have h6 := own_fLS h5 f6
  have e6 := h6
  unfold own_eLS at e6
  obtain ⟨a6, b6, e6⟩ := e6
  have bl6 := bL a6
  rw [m54_75]
  simp [e6, own_x54, ou_a]
  refine lo3_8 (a := 4) (v := 6) f6.1 (by simp [inB_iff, bl6]) (by simp [inB_iff, bl6]) (by simp [e6]) (by simp [e6]) (by decide) (by simp [e6]) (by decide) (by decide) (fun s7 A7 f7 => ?_)
  simp [own_x54, ou_a]
  have h7 := own_fLS h6 f7
  have e7 := h7
  unfold own_eLS at e7
  obtain ⟨a7, b7, e7⟩ := e7
  have bl7 := bL a7
  rw [m54_75]
  simp [e7, own_x54, ou_a]
  refine lo1 (a := 6) f7.1 (by simp [inB_iff, bl7]) (by simp [e7]) (fun s8 A8 f8 => ?_)
  simp [own_x54, ou_a]
  have h8 := own_fLS h7 f8
  have e8 := h8
  unfold own_eLS at e8
  obtain ⟨a8, b8, e8⟩ := e8
  have bl8 := bL a8
  rw [m54_75]
  simp [e8, own_x54, ou_a]
  exact hQ _ _ h8
set_option maxRecDepth 1000000 in
set_option maxHeartbeats 20000000 in
theorem own_wLS {s : Nat → Int32} {A : Nat → List Int32} {L : Nat → Int64} {B : Nat → List Int64} {c2 c3 c4 d2 d3 d4 P R K i0 i1 i2 : Int32} {Q : Option Value → AHeap → Prop} (hd : DG c2 c3 c4 P) (he : DG d2 d3 d4 R) (hk : DK K) (hp : CL P) (hr : CS R) (w0 : WB (own_pk P) c2 c3 c4) (w1 : WB (own_pk R) d2 d3 d4) (h : own_s0 s A L B c2 c3 c4 d2 d3 d4 P R K) (hQ : ∀ s' A' L' B', LN A' → LNB B' → Q (some (.int 1)) (put 0 [] s' A' L' B' [])) : M71 23 [.val (.int i0), .val (.int i1), .val (.int i2), .val (.int P), .val (.int R), .val (.ref 0), .unset, .unset, .unset, .unset] [] (put 0 [] s A L B []) Q := by
  simp [own_cl, own_xa, ou_a]
  refine own_u0 hd he hk h (fun s A L B h => ?_)
  simp [own_cl, own_xa, ou_a]
  refine own_u1 hd he hk h (fun s A L B h => ?_)
  simp [own_cl, own_xa, ou_a]
  refine own_u2 hd he hk h (fun s A L B h => ?_)
  simp [own_cl, own_xa, ou_a]
  refine own_u3 hd he hk h (fun s A L B h => ?_)
  simp [own_cl, own_xa, ou_a]
  refine own_u4 w0 hd he hk h (fun s A L B h => ?_)
  simp [own_cl, own_xa, ou_a]
  refine own_u5 w1 hd he hk h (fun s A L B h => ?_)
  simp [own_cl, own_xa, ou_a]
  refine own_u6 hd he hk h (fun s A L B h => ?_)
  simp [own_cl, own_xa, ou_a]
  refine own_u7 hd he hk h (fun s A L B h => ?_)
  simp [own_cl, own_xa, ou_a]
  refine own_u8 hd he hk h (fun s A L B h => ?_)
  simp [own_cl, own_xa, ou_a]
  refine own_u9 hd he hk h (fun s A L B h => ?_)
  have g := h
  unfold own_s19 own_g0 own_g1 own_g2 own_g3 own_g4 own_g5 own_g6 own_g7 at g
  obtain ⟨gA, gB, g⟩ := g
  simp [g, own_cl, own_xa, ou_a]
  clear g
  refine own_u10 hd he hk h (fun s A L B h => ?_)
  have g := h
  unfold own_s21 own_g1 own_g2 own_g3 own_g4 own_g5 own_g6 own_g7 at g
  obtain ⟨gA, gB, g⟩ := g
  simp [g, own_cl, own_xa, ou_a]
  clear g
  refine own_u11 hd he hk h (fun s A L B h => ?_)
  have g := h
  unfold own_s23 own_g1 own_g2 own_g3 own_g4 own_g5 own_g6 own_g7 at g
  obtain ⟨gA, gB, g⟩ := g
  simp [g, own_cl, own_xa, ou_a]
  clear g
  refine own_u12 hd he hk h (fun s A L B h => ?_)
  have g := h
  unfold own_s25 own_g1 own_g3 own_g4 own_g5 own_g6 own_g7 at g
  obtain ⟨gA, gB, g⟩ := g
  simp [g, own_cl, own_xa, ou_a]
  clear g
  refine own_u13 hd he hk h (fun s A L B h => ?_)
  have g := h
  unfold own_s27 own_g1 own_g4 own_g5 own_g6 own_g7 own_g8 at g
  obtain ⟨gA, gB, g⟩ := g
  simp [g, own_cl, own_xa, ou_a]
  clear g
  refine own_u14L hd he hk hp h (fun s A L B h => ?_)
  have g := h
  unfold own_s29L own_g1 own_g4 own_g5 own_g6 own_g7 own_g8 at g
  obtain ⟨gA, gB, g⟩ := g
  simp [g, own_cl, own_xa, ou_a]
  clear g
  refine own_u15L hd he hk hp h (fun s A L B h => ?_)
  have g := h
  unfold own_s31L own_g1 own_g4 own_g5 own_g6 own_g7 at g
  obtain ⟨gA, gB, g⟩ := g
  simp [g, own_cl, own_xa, ou_a]
  clear g
  refine own_u16L hd he hk hp h (fun s A L B h => ?_)
  have g := h
  unfold own_s33L own_g1 own_g5 own_g6 own_g7 own_g8 own_g9 at g
  obtain ⟨gA, gB, g⟩ := g
  simp [g, own_cl, own_xa, ou_a]
  clear g
  refine own_u17LS hd he hk hp hr h (fun s A L B h => ?_)
  have g := h
  unfold own_s35LS own_g5 own_g6 own_g7 own_g8 at g
  obtain ⟨gA, gB, g⟩ := g
  simp [g, own_cl, own_xa, ou_a]
  clear g
  refine own_u18LS hd he hk hp hr h (fun s A L B h => ?_)
  have g := h
  unfold own_s37LS own_g5 own_g6 own_g7 at g
  obtain ⟨gA, gB, g⟩ := g
  simp [g, own_cl, own_xa, ou_a]
  clear g
  refine own_u19LS hd he hk hp hr h (fun s A L B h => ?_)
  have g := h
  unfold own_s39LS own_g6 own_g7 at g
  obtain ⟨gA, gB, g⟩ := g
  simp [g, own_cl, own_xa, ou_a]
  clear g
  refine own_u20LS hd he hk hp hr h (fun s A L B h => ?_)
  have g := h
  unfold own_s41LS own_g7 own_g10 at g
  obtain ⟨gA, gB, g⟩ := g
  simp [g, own_cl, own_xa, ou_a]
  clear g
  refine own_u21LS hd he hk hp hr h (fun s A L B h => ?_)
  have g := h
  unfold own_s43LS own_g10 at g
  obtain ⟨gA, gB, g⟩ := g
  simp [g, own_cl, own_xa, ou_a]
  clear g
  refine own_u22LS hd he hk hp hr h (fun s A L B h => ?_)
  have g := h
  unfold own_s45LS own_g10 at g
  obtain ⟨gA, gB, g⟩ := g
  simp [g, own_cl, own_xa, ou_a]
  clear g
  refine own_u23LS hd he hk hp hr h (fun s A L B h => ?_)
  have g := h
  unfold own_s47LS at g
  obtain ⟨gA, gB, g⟩ := g
  simp [g, own_cl, own_xa, ou_a]
  refine own_bLS (c2 := c2) (c3 := c3) (c4 := c4) (d2 := d2) (d3 := d3) (d4 := d4) (K := K) hp hr ?_ (fun s' A' h' => ?_)
  · unfold own_eLS
    refine ⟨gA, gB, ?_⟩
    simp [g, ou_a]
  · unfold own_eLS at h'
    obtain ⟨hA, hB, e⟩ := h'
    have bl := bL hA
    have bb := bB hB
    unfold CL at hp
    unfold CS at hr
    simp (maxSteps := 10000000) [e, hp, hr, bl, bb, inB_iff, XT.cmpL, own_t0, own_t1, own_t2, own_t3, own_t4, own_t5, own_xa, own_xb, own_sh0, -Int64.toInt32_and, -Int64.toInt32_or, -Int64.toInt32_xor, -Int32.toInt64_and, -Int32.toInt64_or, -Int32.toInt64_xor, -Int32.toInt8_and, -Int32.toUInt32_and, -Int32.toUInt32_or, -Int32.toUInt32_xor, nb0, nb1, ou_a, Option.toList_some, Option.toList_none, List.nil_append, List.cons_append]
    exact hQ _ _ _ _ hA hB
def own_eLL (s : Nat → Int32) (A : Nat → List Int32) (L : Nat → Int64) (B : Nat → List Int64) (c2 c3 c4 d2 d3 d4 P R K : Int32) : Prop := LN A ∧ LNB B ∧ getA (A 3) 0 = 129 ∧ getA (A 3) 1 = (P &&& 255) ∧ getA (A 3) 2 = 129 ∧ getA (A 3) 3 = (R &&& 255) ∧ getA (A 3) 4 = 98 ∧ getA (A 3) 5 = 133 ∧ getA (A 3) 6 = 7 ∧ getA (A 3) 7 = 1 ∧ getA (A 4) 0 = 0 ∧ getA (A 4) 1 = 2 ∧ getA (A 4) 2 = 7 ∧ getL (B 0) 0 = 1257393 ∧ getL (B 0) 1 = 1257394 ∧ getL (B 0) 2 = 69 ∧ s 24 = 1 ∧ s 26 = 8 ∧ s 27 = 2 ∧ s 28 = 3
theorem own_fLL {s s' : Nat → Int32} {A A' : Nat → List Int32} {L : Nat → Int64} {B : Nat → List Int64} {c2 c3 c4 d2 d3 d4 P R K : Int32} (h : own_eLL s A L B c2 c3 c4 d2 d3 d4 P R K) (f : FRL s A s' A') : own_eLL s' A' L B c2 c3 c4 d2 d3 d4 P R K := by
  unfold own_eLL at *
  obtain ⟨hA, hB, h⟩ := h
  refine ⟨f.1.1, hB, ?_⟩
  rw [f.2.1 24 (by decide) (by decide), f.2.1 26 (by decide) (by decide), f.2.1 27 (by decide) (by decide), f.2.1 28 (by decide) (by decide), f.2.2 3 (by decide) (by decide), f.2.2 4 (by decide) (by decide)]
  exact h
set_option maxRecDepth 1000000 in
set_option maxHeartbeats 20000000 in
theorem own_bLL {s : Nat → Int32} {A : Nat → List Int32} {L : Nat → Int64} {B : Nat → List Int64} {c2 c3 c4 d2 d3 d4 P R K : Int32} {Q : Option Value → AHeap → Prop} (hp : CL P) (hr : CL R) (h : own_eLL s A L B c2 c3 c4 d2 d3 d4 P R K) (hQ : ∀ s' A', own_eLL s' A' L B c2 c3 c4 d2 d3 d4 P R K → Q none (put 0 [] s' A' L B [])) : M54 0 [.val (.ref 0), .unset, .unset] [] (put 0 [] s A L B []) Q := by
  unfold CL at hp
  unfold CL at hr
  have h0 : own_eLL (ou s 29 0) A L B c2 c3 c4 d2 d3 d4 P R K := by
    unfold own_eLL at *
    exact h
  have f0 : OKL (ou s 29 0) A := ⟨h.1, by show 0 ≤ (0 : Int32).toInt; decide, by show (0 : Int32).toInt ≤ 624; decide⟩
  simp [m54_0, m54_5, nb0, nb1, ou_a, Option.toList_some, Option.toList_none, List.nil_append, List.cons_append]
  have e0 := h0
  unfold own_eLL at e0
  obtain ⟨a0, b0, e0⟩ := e0
  have bl0 := bL a0
  refine sl54 (i := 0) (v := 0) f0 b0 (by simp [e0]) (by decide) (by decide) (by simp [e0]) (by decide) (by decide) (fun s1 A1 f1 => ?_)
  have h1 := own_fLL h0 f1
  have e1 := h1
  unfold own_eLL at e1
  obtain ⟨a1, b1, e1⟩ := e1
  have bl1 := bL a1
  refine sl54 (i := 0 + 1) (v := 2) f1.1 b1 (by simp [e1]) (by decide) (by decide) (by simp [e1]) (by decide) (by decide) (fun s2 A2 f2 => ?_)
  have h2 := own_fLL h1 f2
  have e2 := h2
  unfold own_eLL at e2
  obtain ⟨a2, b2, e2⟩ := e2
  have bl2 := bL a2
  refine sl54 (i := 0 + 1 + 1) (v := 7) f2.1 b2 (by simp [e2]) (by decide) (by decide) (by simp [e2]) (by decide) (by decide) (fun s3 A3 f3 => ?_)
  have h3 := own_fLL h2 f3
  have e3 := h3
  unfold own_eLL at e3
  obtain ⟨a3, b3, e3⟩ := e3
  have bl3 := bL a3
  rw [m54_7]
  simp [e3, own_x54, ou_a]
  rw [m54_75]
  simp [e3, own_x54, ou_a]
  refine lo3_4 (a := 0) (v := (P &&& 255)) f3.1 (by simp [inB_iff, bl3]) (by simp [inB_iff, bl3]) (by simp [e3]) (by simp [e3]) (by decide) (by simp [e3]) (by simp [hp, hr]) (by simp [hp, hr]) (fun s4 A4 f4 => ?_)
  simp [own_x54, ou_a]
  have h4 := own_fLL h3 f4
  have e4 := h4
  unfold own_eLL at e4
  obtain ⟨a4, b4, e4⟩ := e4
  have bl4 := bL a4
  rw [m54_75]
  simp [e4, own_x54, ou_a]
  refine lo3_4 (a := 2) (v := (R &&& 255)) f4.1 (by simp [inB_iff, bl4]) (by simp [inB_iff, bl4]) (by simp [e4]) (by simp [e4]) (by decide) (by simp [e4]) (by simp [hp, hr]) (by simp [hp, hr]) (fun s5 A5 f5 => ?_)
  simp [own_x54, ou_a]
  have h5 := own_fLL h4 f5
  have e5 := h5
  unfold own_eLL at e5
  obtain ⟨a5, b5, e5⟩ := e5
  have bl5 := bL a5
  rw [m54_75]
  simp [e5, own_x54, ou_a]
  refine lo2_9 (a := 4) (b := 98) (v := 2) f5.1 (by simp [inB_iff, bl5]) (by simp [e5]) (by decide) (by decide) (by decide) (by decide) (by decide) (by decide) (by decide) (by decide) (fun s6 A6 f6 => ?_)
  simp [own_x54, ou_a]
  have h6 := own_fLL h5 f6
  have e6 := h6
  unfold own_eLL at e6
  obtain ⟨a6, b6, e6⟩ := e6
  have bl6 := bL a6
  rw [m54_75]
  simp [e6, own_x54, ou_a]
  refine lo3_8 (a := 5) (v := 7) f6.1 (by simp [inB_iff, bl6]) (by simp [inB_iff, bl6]) (by simp [e6]) (by simp [e6]) (by decide) (by simp [e6]) (by decide) (by decide) (fun s7 A7 f7 => ?_)
  simp [own_x54, ou_a]
  have h7 := own_fLL h6 f7
  have e7 := h7
  unfold own_eLL at e7
  obtain ⟨a7, b7, e7⟩ := e7
  have bl7 := bL a7
  rw [m54_75]
  simp [e7, own_x54, ou_a]
  refine lo1 (a := 7) f7.1 (by simp [inB_iff, bl7]) (by simp [e7]) (fun s8 A8 f8 => ?_)
  simp [own_x54, ou_a]
  have h8 := own_fLL h7 f8
  have e8 := h8
  unfold own_eLL at e8
  obtain ⟨a8, b8, e8⟩ := e8
  have bl8 := bL a8
  rw [m54_75]
  simp [e8, own_x54, ou_a]
  exact hQ _ _ h8
set_option maxRecDepth 1000000 in
set_option maxHeartbeats 20000000 in
theorem own_wLL {s : Nat → Int32} {A : Nat → List Int32} {L : Nat → Int64} {B : Nat → List Int64} {c2 c3 c4 d2 d3 d4 P R K i0 i1 i2 : Int32} {Q : Option Value → AHeap → Prop} (hd : DG c2 c3 c4 P) (he : DG d2 d3 d4 R) (hk : DK K) (hp : CL P) (hr : CL R) (w0 : WB (own_pk P) c2 c3 c4) (w1 : WB (own_pk R) d2 d3 d4) (h : own_s0 s A L B c2 c3 c4 d2 d3 d4 P R K) (hQ : ∀ s' A' L' B', LN A' → LNB B' → Q (some (.int 1)) (put 0 [] s' A' L' B' [])) : M71 23 [.val (.int i0), .val (.int i1), .val (.int i2), .val (.int P), .val (.int R), .val (.ref 0), .unset, .unset, .unset, .unset] [] (put 0 [] s A L B []) Q := by
  simp [own_cl, own_xa, ou_a]
  refine own_u0 hd he hk h (fun s A L B h => ?_)
  simp [own_cl, own_xa, ou_a]
  refine own_u1 hd he hk h (fun s A L B h => ?_)
  simp [own_cl, own_xa, ou_a]
  refine own_u2 hd he hk h (fun s A L B h => ?_)
  simp [own_cl, own_xa, ou_a]
  refine own_u3 hd he hk h (fun s A L B h => ?_)
  simp [own_cl, own_xa, ou_a]
  refine own_u4 w0 hd he hk h (fun s A L B h => ?_)
  simp [own_cl, own_xa, ou_a]
  refine own_u5 w1 hd he hk h (fun s A L B h => ?_)
  simp [own_cl, own_xa, ou_a]
  refine own_u6 hd he hk h (fun s A L B h => ?_)
  simp [own_cl, own_xa, ou_a]
  refine own_u7 hd he hk h (fun s A L B h => ?_)
  simp [own_cl, own_xa, ou_a]
  refine own_u8 hd he hk h (fun s A L B h => ?_)
  simp [own_cl, own_xa, ou_a]
  refine own_u9 hd he hk h (fun s A L B h => ?_)
  have g := h
  unfold own_s19 own_g0 own_g1 own_g2 own_g3 own_g4 own_g5 own_g6 own_g7 at g
  obtain ⟨gA, gB, g⟩ := g
  simp [g, own_cl, own_xa, ou_a]
  clear g
  refine own_u10 hd he hk h (fun s A L B h => ?_)
  have g := h
  unfold own_s21 own_g1 own_g2 own_g3 own_g4 own_g5 own_g6 own_g7 at g
  obtain ⟨gA, gB, g⟩ := g
  simp [g, own_cl, own_xa, ou_a]
  clear g
  refine own_u11 hd he hk h (fun s A L B h => ?_)
  have g := h
  unfold own_s23 own_g1 own_g2 own_g3 own_g4 own_g5 own_g6 own_g7 at g
  obtain ⟨gA, gB, g⟩ := g
  simp [g, own_cl, own_xa, ou_a]
  clear g
  refine own_u12 hd he hk h (fun s A L B h => ?_)
  have g := h
  unfold own_s25 own_g1 own_g3 own_g4 own_g5 own_g6 own_g7 at g
  obtain ⟨gA, gB, g⟩ := g
  simp [g, own_cl, own_xa, ou_a]
  clear g
  refine own_u13 hd he hk h (fun s A L B h => ?_)
  have g := h
  unfold own_s27 own_g1 own_g4 own_g5 own_g6 own_g7 own_g8 at g
  obtain ⟨gA, gB, g⟩ := g
  simp [g, own_cl, own_xa, ou_a]
  clear g
  refine own_u14L hd he hk hp h (fun s A L B h => ?_)
  have g := h
  unfold own_s29L own_g1 own_g4 own_g5 own_g6 own_g7 own_g8 at g
  obtain ⟨gA, gB, g⟩ := g
  simp [g, own_cl, own_xa, ou_a]
  clear g
  refine own_u15L hd he hk hp h (fun s A L B h => ?_)
  have g := h
  unfold own_s31L own_g1 own_g4 own_g5 own_g6 own_g7 at g
  obtain ⟨gA, gB, g⟩ := g
  simp [g, own_cl, own_xa, ou_a]
  clear g
  refine own_u16L hd he hk hp h (fun s A L B h => ?_)
  have g := h
  unfold own_s33L own_g1 own_g5 own_g6 own_g7 own_g8 own_g9 at g
  obtain ⟨gA, gB, g⟩ := g
  simp [g, own_cl, own_xa, ou_a]
  clear g
  refine own_u17LL hd he hk hp hr h (fun s A L B h => ?_)
  have g := h
  unfold own_s35LL own_g5 own_g6 own_g7 own_g8 at g
  obtain ⟨gA, gB, g⟩ := g
  simp [g, own_cl, own_xa, ou_a]
  clear g
  refine own_u18LL hd he hk hp hr h (fun s A L B h => ?_)
  have g := h
  unfold own_s37LL own_g5 own_g6 own_g7 at g
  obtain ⟨gA, gB, g⟩ := g
  simp [g, own_cl, own_xa, ou_a]
  clear g
  refine own_u19LL hd he hk hp hr h (fun s A L B h => ?_)
  have g := h
  unfold own_s39LL own_g6 own_g7 at g
  obtain ⟨gA, gB, g⟩ := g
  simp [g, own_cl, own_xa, ou_a]
  clear g
  refine own_u20LL hd he hk hp hr h (fun s A L B h => ?_)
  have g := h
  unfold own_s41LL own_g7 own_g10 at g
  obtain ⟨gA, gB, g⟩ := g
  simp [g, own_cl, own_xa, ou_a]
  clear g
  refine own_u21LL hd he hk hp hr h (fun s A L B h => ?_)
  have g := h
  unfold own_s43LL own_g10 at g
  obtain ⟨gA, gB, g⟩ := g
  simp [g, own_cl, own_xa, ou_a]
  clear g
  refine own_u22LL hd he hk hp hr h (fun s A L B h => ?_)
  have g := h
  unfold own_s45LL own_g10 at g
  obtain ⟨gA, gB, g⟩ := g
  simp [g, own_cl, own_xa, ou_a]
  clear g
  refine own_u23LL hd he hk hp hr h (fun s A L B h => ?_)
  have g := h
  unfold own_s47LL at g
  obtain ⟨gA, gB, g⟩ := g
  simp [g, own_cl, own_xa, ou_a]
  refine own_bLL (c2 := c2) (c3 := c3) (c4 := c4) (d2 := d2) (d3 := d3) (d4 := d4) (K := K) hp hr ?_ (fun s' A' h' => ?_)
  · unfold own_eLL
    refine ⟨gA, gB, ?_⟩
    simp [g, ou_a]
  · unfold own_eLL at h'
    obtain ⟨hA, hB, e⟩ := h'
    have bl := bL hA
    have bb := bB hB
    unfold CL at hp
    unfold CL at hr
    simp (maxSteps := 10000000) [e, hp, hr, bl, bb, inB_iff, XT.cmpL, own_t0, own_t1, own_t2, own_t3, own_t4, own_t5, own_xa, own_xb, own_sh0, -Int64.toInt32_and, -Int64.toInt32_or, -Int64.toInt32_xor, -Int32.toInt64_and, -Int32.toInt64_or, -Int32.toInt64_xor, -Int32.toInt8_and, -Int32.toUInt32_and, -Int32.toUInt32_or, -Int32.toUInt32_xor, nb0, nb1, ou_a, Option.toList_some, Option.toList_none, List.nil_append, List.cons_append]
    exact hQ _ _ _ _ hA hB
set_option maxRecDepth 1000000 in
set_option maxHeartbeats 20000000 in
theorem own_mn {s : Nat → Int32} {K i0 i1 i2 : Int32} {Q : Option Value → AHeap → Prop} (hk : DK K) (h1 : s 21 = K) (h2 : s 22 = 0) (hQ : ∀ s' A' L' B', LN A' → LNB B' → Q (some (.int 1)) (put 0 [] s' A' L' B' [])) : M71 23 [.val (.int i0), .val (.int i1), .val (.int i2), .val (.int (i1 &&& 511)), .val (.int (i2 &&& 511)), .val (.ref 0), .unset, .unset, .unset, .unset] [] (put 0 [] s A0 (fun _ => 0) B0 []) Q := by
  obtain ⟨kp, ep⟩ := p_f i1
  obtain ⟨kr, er⟩ := p_f i2
  rw [ep, er]
  have h : ∀ c2 c3 c4 d2 d3 d4 P R : Int32, own_s0 s A0 (fun _ => 0) B0 c2 c3 c4 d2 d3 d4 P R K := fun _ _ _ _ _ _ _ _ => ⟨fun _ => rfl, fun _ => rfl, by first | exact h1 | exact h2, by first | exact h1 | exact h2⟩
  by_cases cp : 15 < Int32.ofNat kp.val <;> by_cases cr : 15 < Int32.ofNat kr.val
  · exact own_wLL (dg_f kp) (dg_f kr) hk ((cs_f kp).1 cp) ((cs_f kr).1 cr) (wb_f kp) (wb_f kr) (h _ _ _ _ _ _ _ _) hQ
  · exact own_wLS (dg_f kp) (dg_f kr) hk ((cs_f kp).1 cp) ((cs_f kr).2 cr) (wb_f kp) (wb_f kr) (h _ _ _ _ _ _ _ _) hQ
  · exact own_wSL (dg_f kp) (dg_f kr) hk ((cs_f kp).2 cp) ((cs_f kr).1 cr) (wb_f kp) (wb_f kr) (h _ _ _ _ _ _ _ _) hQ
  · exact own_wSS (dg_f kp) (dg_f kr) hk ((cs_f kp).2 cp) ((cs_f kr).2 cr) (wb_f kp) (wb_f kr) (h _ _ _ _ _ _ _ _) hQ
theorem own_fin (s' : Nat → Int32) (A' : Nat → List Int32) (L' : Nat → Int64) (B' : Nat → List Int64) (hl : ∀ i, (A' i).length = (A0 i).length) (hm : ∀ i, (B' i).length = (B0 i).length) : (some (Value.int 1) : Option Value) = some (.int 1) ∧ (put 0 [] s' A' L' B' []).length - ([] : AHeap).length ≤ 80 ∧ tot tables_1 (put 0 [] s' A' L' B' []) - tot tables_1 [] ≤ 18496 := by
  refine ⟨rfl, ?_, ?_⟩ <;> simp only [hl, hm, put_len, put_tot, pad_0, tot_nil, List.length_nil, List.length_cons, A0l_0, A0l_1, A0l_2, A0l_3, A0l_4, A0l_5, A0l_6, A0l_7, A0l_8, A0l_9, A0l_10, A0l_11, A0l_12, A0l_13, A0l_14, A0l_15, A0l_16, A0l_17, A0l_18, A0l_19, A0l_20, A0l_21, A0l_22, A0l_23, A0l_24, A0l_25, A0l_26, A0l_27, A0l_28, B0l_0, B0l_1, B0l_2, B0l_3, B0l_4] <;> omega
theorem own_gt {a b c : Int32} (h : ¬ a < b) (hb : c < b) : c < a := by
  rw [lt_i] at *
  omega
set_option maxRecDepth 1000000 in
set_option maxHeartbeats 20000000 in
theorem own_gen (i0 i1 i2 : Int32) {Q : Option Value → AHeap → Prop} (hQ : ∀ s' A' L' B', LN A' → LNB B' → Q (some (.int 1)) (put 0 [] s' A' L' B' [])) : M71 0 [.val (.int i0), .val (.int i1), .val (.int i2), .unset, .unset, .unset, .unset, .unset, .unset, .unset] [] [] Q := by
  rw [m71_0, m71_13, m71_16, m71_17, m71_18, own_ctor0 rfl]
  by_cases a1 : i0 < 8
  · simp [a1, m0_0, m0_1, m0_4, m0_5, m0_6, m0_9, m0_10, m0_11, m0_14, m0_15, m0_16, m0_19, m0_20, m0_21, m0_24, m0_25, m0_26, m0_29, m0_30, m0_31, m0_34, m0_35, m0_36, m0_39, m0_40, m0_41, m0_44, m0_45, m0_46, m0_49, m0_50, m0_51, m0_54, m0_55, m0_56, m0_59, m0_60, m0_62, m0_65, m0_66, m0_68, m0_71, m0_72, m0_74, m0_77, m0_78, m0_80, m0_83, m0_84, m0_86, m0_89, m0_90, m0_92, m0_95, m0_96, m0_98, m0_101, m0_102, m0_104, m0_107, m0_108, m0_110, m0_113, m0_114, m0_116, m0_119, m0_120, m0_128, m0_129, m0_137, m0_138, m0_146, m0_147, m0_154, m0_155, m0_162, m0_163, m0_170, m0_171, m0_179, m0_180, m0_187, m0_188, m0_195, m0_196, m0_203, m0_204, m0_211, m0_212, m0_219, m0_220, m0_227, m0_228, m0_235, m0_236, m0_243, m0_244, m0_251, m0_252, m0_259, m0_260, m0_267, m0_268, m0_275, m0_276, m0_283, m0_284, m0_292, m0_293, m0_301, m0_302, m0_310, m0_311, m0_319, m0_320, m0_328, m0_329, m0_336, m0_337, m0_344, m0_345, m0_352, m0_353, m0_360, m0_361, m0_368, m0_369, m0_376, m0_377, m0_384, m0_385, m0_393, m0_394, m0_402, m0_403u, m0_404, m0_405, m0_407, m0_410, m0_412i, m0_413, m0_414, m0_416, m0_419, m0_421i, m0_422, m0_423, m0_424, m0_427, m71_21u, nb0, nb1, ou_a, Option.toList_some, Option.toList_none, List.nil_append, List.cons_append]
    exact own_mn (K := 8) (by unfold DK; decide) (by simp [ou_a]) (by simp [ou_a, S0]) hQ
  by_cases a2 : 32 < i0
  · simp [a1, a2, m0_0, m0_1, m0_4, m0_5, m0_6, m0_9, m0_10, m0_11, m0_14, m0_15, m0_16, m0_19, m0_20, m0_21, m0_24, m0_25, m0_26, m0_29, m0_30, m0_31, m0_34, m0_35, m0_36, m0_39, m0_40, m0_41, m0_44, m0_45, m0_46, m0_49, m0_50, m0_51, m0_54, m0_55, m0_56, m0_59, m0_60, m0_62, m0_65, m0_66, m0_68, m0_71, m0_72, m0_74, m0_77, m0_78, m0_80, m0_83, m0_84, m0_86, m0_89, m0_90, m0_92, m0_95, m0_96, m0_98, m0_101, m0_102, m0_104, m0_107, m0_108, m0_110, m0_113, m0_114, m0_116, m0_119, m0_120, m0_128, m0_129, m0_137, m0_138, m0_146, m0_147, m0_154, m0_155, m0_162, m0_163, m0_170, m0_171, m0_179, m0_180, m0_187, m0_188, m0_195, m0_196, m0_203, m0_204, m0_211, m0_212, m0_219, m0_220, m0_227, m0_228, m0_235, m0_236, m0_243, m0_244, m0_251, m0_252, m0_259, m0_260, m0_267, m0_268, m0_275, m0_276, m0_283, m0_284, m0_292, m0_293, m0_301, m0_302, m0_310, m0_311, m0_319, m0_320, m0_328, m0_329, m0_336, m0_337, m0_344, m0_345, m0_352, m0_353, m0_360, m0_361, m0_368, m0_369, m0_376, m0_377, m0_384, m0_385, m0_393, m0_394, m0_402, m0_403u, m0_404, m0_405, m0_407, m0_410, m0_412i, m0_413, m0_414, m0_416, m0_419, m0_421i, m0_422, m0_423, m0_424, m0_427, m71_21u, nb0, nb1, ou_a, Option.toList_some, Option.toList_none, List.nil_append, List.cons_append]
    exact own_mn (K := 32) (by unfold DK; decide) (by simp [ou_a]) (by simp [ou_a, S0]) hQ
  · simp [a1, a2, m0_0, m0_1, m0_4, m0_5, m0_6, m0_9, m0_10, m0_11, m0_14, m0_15, m0_16, m0_19, m0_20, m0_21, m0_24, m0_25, m0_26, m0_29, m0_30, m0_31, m0_34, m0_35, m0_36, m0_39, m0_40, m0_41, m0_44, m0_45, m0_46, m0_49, m0_50, m0_51, m0_54, m0_55, m0_56, m0_59, m0_60, m0_62, m0_65, m0_66, m0_68, m0_71, m0_72, m0_74, m0_77, m0_78, m0_80, m0_83, m0_84, m0_86, m0_89, m0_90, m0_92, m0_95, m0_96, m0_98, m0_101, m0_102, m0_104, m0_107, m0_108, m0_110, m0_113, m0_114, m0_116, m0_119, m0_120, m0_128, m0_129, m0_137, m0_138, m0_146, m0_147, m0_154, m0_155, m0_162, m0_163, m0_170, m0_171, m0_179, m0_180, m0_187, m0_188, m0_195, m0_196, m0_203, m0_204, m0_211, m0_212, m0_219, m0_220, m0_227, m0_228, m0_235, m0_236, m0_243, m0_244, m0_251, m0_252, m0_259, m0_260, m0_267, m0_268, m0_275, m0_276, m0_283, m0_284, m0_292, m0_293, m0_301, m0_302, m0_310, m0_311, m0_319, m0_320, m0_328, m0_329, m0_336, m0_337, m0_344, m0_345, m0_352, m0_353, m0_360, m0_361, m0_368, m0_369, m0_376, m0_377, m0_384, m0_385, m0_393, m0_394, m0_402, m0_403u, m0_404, m0_405, m0_407, m0_410, m0_412i, m0_413, m0_414, m0_416, m0_419, m0_421i, m0_422, m0_423, m0_424, m0_427, m71_21u, nb0, nb1, ou_a, Option.toList_some, Option.toList_none, List.nil_append, List.cons_append]
    exact own_mn (K := i0) ⟨own_gt a1 (by decide), own_gt a1 (by decide), own_gt a1 (by decide), own_gt a1 (by decide), own_gt a1 (by decide), own_gt a1 (by decide), own_gt a1 (by decide), own_gt a1 (by decide)⟩ (by simp [ou_a]) (by simp [ou_a, S0]) hQ
set_option maxRecDepth 1000000 in
set_option maxHeartbeats 20000000 in
theorem own_law (i0 : Int32) (i1 : Int32) (i2 : Int32) : W tables_1 dn 0 x code ret 0 (entry [.int i0, .int i1, .int i2] maxLocals) [] [] (fun v H1 => v = some (.int 1) ∧ H1.length - ([] : AHeap).length ≤ 80 ∧ tot tables_1 H1 - tot tables_1 [] ≤ 18496) := by
  show M71 0 [.val (.int i0), .val (.int i1), .val (.int i2), .unset, .unset, .unset, .unset, .unset, .unset, .unset] [] [] _
  exact own_gen _ _ _ own_fin
theorem own_dn : ∀ f' l', dnOf dn x = some (f', l') → f' ≤ room_1.frames ∧ l' ≤ room_1.locals := by
  have h : dnOf dn x = some (10, 150) := by decide +kernel
  intro f' l' q; rw [h] at q; cases q; decide
theorem own_pn : Jvm.plainName x.cls = true := by first | (simp [Jvm.plainName, overriddenIn, x]; done) | decide +kernel
theorem own_rm (l : Launch) (Z : State) (a0 : Array Value) (hw : ∀ d ∈ tables_1, d.before a0 Z = true) (i0 : Int32) (i1 : Int32) (i2 : Int32) (h : Heap) :
    MetFree l x (head1 (Jvm.Cond.code x code maxLocals ret :: tables_1) room_1) (fun a U => a = #[.int i0, .int i1, .int i2] ∧ Z.Warmed39 U.vm ∧ U.heap = h) (fun _ _ _ _ _ => True) (fun _ U o U' => ∃ w L, o = .returned w ∧ (w = some (.int 1) ∧ Fr h.size L) ∧ FrameEnd U o U' L 80 18496) :=
  law_of (as := [.int i0, .int i1, .int i2]) (mx := maxLocals) (f := room_1.frames) (lc := room_1.locals) hw l tables_1 own_pn (by show 3 ≤ 10; omega) (own_law i0 i1 i2) own_dn (Sim.empty Z tables_1 h)
set_option maxRecDepth 65536 in
set_option maxHeartbeats 40000000 in
theorem comes_1 {Post : Tables → Env → Array Value → State → Outcome → State → Prop} (hpost : ∀ tb e args s v u, (limb_1_1.after args s (.returned v) u = true ∧ limb_1_2.after args s (.returned v) u = true ∧ True) → FrameEnd s (.returned v) u (Jvm.fieldLocs frame_1_writes args s ++ Jvm.arrayLocs frame_1_arrays args s ++ Jvm.staticLocs frame_1_statics s) 80 18496 → Post tb e args s (.returned v) u) :
    ArmFor flags0 classFile x code maxLocals ret World_1 tables_1 room_1 Calls_1 rest_1 Pre_1 Post := by
  intro l hfl _ _ p e ha hc hk s m args below hf hA hF happ hP
  obtain ⟨hcalls, hrest, hpre⟩ := hP
  obtain ⟨-, -, -, hnamed, -, -, -, hat⟩ := (Spec.applies_iff hf).mp happ
  obtain ⟨hg, hn⟩ := and_e (Cond.before_iff.mp (show (Jvm.Cond.and given_1 narrow_1).before args s = true from hpre))
  obtain ⟨g0, t0⟩ := and_e hg
  obtain ⟨q0, t1⟩ := and_e t0
  obtain ⟨q1, t2⟩ := and_e t1
  have q2 := t2
  obtain ⟨w0, w1, w2, rfl⟩ : ∃ w0 w1 w2 : Value, args = #[w0, w1, w2] := by
    have hs : args.size = 3 := by simpa [Cond.value, given_1] using g0
    obtain ⟨L⟩ := args
    match L, hs with
    | [w0, w1, w2], _ => exact ⟨w0, w1, w2, rfl⟩
  have hw := fun d (hd : d ∈ tables_1) => atoms_spec (ws := Jvm.Cond.code x code maxLocals ret :: tables_1) hat d (List.mem_cons_of_mem _ hd)
  obtain ⟨i0, ei0⟩ := is_v q0
  obtain rfl : w0 = (.int i0) := Option.some.inj ei0
  obtain ⟨i1, ei1⟩ := is_v q1
  obtain rfl : w1 = (.int i1) := Option.some.inj ei1
  obtain ⟨i2, ei2⟩ := is_v q2
  obtain rfl : w2 = (.int i2) := Option.some.inj ei2
  obtain ⟨n, o, h1, h2, h3, _, L, rfl, ⟨rfl, N⟩, hq⟩ := own_rm l s _ hw i0 i1 i2 s.heap p e ha hc hk s m _ below hf ((Spec.applies_iff_loose hf).mp happ).1 ⟨rfl, State.Warmed39.refl s, rfl⟩ trivial
  exact ⟨n, _, h1, h2, h3, hpost _ _ _ _ _ _ ⟨Cond.after_iff.mpr rfl, Cond.after_iff.mpr (eq_i res_at (Term.int_eval (1)) rfl), trivial⟩ ⟨hq.1, hq.2.1, (hq.2.2.sift fun y hy => Or.inr (N y hy)).mono (by decide) (by decide)⟩⟩
theorem main_1_1 : Claimed_1_1 := comes_1 fun _ _ _ _ _ _ h hF => ⟨h.1, hF⟩
theorem main_1_2 : Claimed_1_2 := comes_1 fun _ _ _ _ _ _ h hF => ⟨h.2.1, hF⟩
end Jvm.Pilot.@@N@@
namespace Jvm.Pilot.@@N@@
open Jvm Jvm.ClassFile Sem Op Lib Jvm.Free Jvm.Stand Jvm.Pilot.@@N@@.Jvm.D
/-! MADE BY PROGRAM (witnessworld.py) out of the Statement's table words and the real class files: 15 classes; the members and pool entries that the words name. The judged class is class 1, her method 3. -/
namespace start1
open Jvm.ClassFile
def u (s : String) : CpInfo := .utf8 (stringToUtf16 s)
/-- a pool by its gaps: so many unusable entries, then the entry; so many at the end -/
def gap : Nat → List CpInfo → List CpInfo
  | 0, r => r
  | n + 1, r => .unusable :: gap n r
def poolList (es : List (Nat × CpInfo)) (last : Nat) : List CpInfo := es.foldr (fun e r => gap e.1 (e.2 :: r)) (gap last [])
def pool (es : List (Nat × CpInfo)) (last : Nat) : Array CpInfo := ⟨poolList es last⟩
def fileOf (pool : Array CpInfo) (this : Nat) (attrs : Array Attribute := #[]) (ms : Array MethodInfo := #[]) (fl : Nat := 33) (sup : Nat := 0) (ifs : Array Nat := #[]) (fds : Array FieldInfo := #[]) : ClassFile where
  minorVersion := 0
  majorVersion := 65
  constantPool := pool
  accessFlags := fl
  thisClass := this
  superClass := sup
  interfaces := ifs
  fields := fds
  methods := ms
  attributes := attrs
def plain (name : String) (sup : Option ClassId) : Class where
  name := name
  kind := .ordinary
  loader := none
  accessFlags := 33
  super := sup
  interfaces := #[]
  cf := none
  fields := #[]
  methods := #[]
  instanceTypes := #[]
  staticTypes := #[]
  resolved := #[]
  callSites := []
  init := .initialized
  statics := none
  mirror := none

def pool0 : Array CpInfo := pool [(5, u "<init>"), (0, u "()V"), (1, .class_ 10), (1, u "java/lang/Object")] 113

def k0c0 : Code := { maxStack := 0, maxLocals := 1, code := object_method_1_code, exceptionTable := #[], attributes := #[] }
def k0m0 : Method := { name := "<init>", desc := "()V", sig := { parameters := [], returnType := none }, accessFlags := 1, code := some k0c0 }
/-- java/lang/Object -/
def k0 : Class := { plain "java/lang/Object" none with
  accessFlags := 33
  interfaces := #[]
  cf := some (fileOf pool0 8 #[] #[{ accessFlags := 1, nameIndex := 5, descriptorIndex := 6, attributes := #[] }] 33 0 #[] #[])
  fields := #[]
  methods := #[k0m0]
  instanceTypes := #[]
  staticTypes := #[]
  resolved := Array.replicate 124 none
  statics := none }

def pool1 : Array CpInfo := pool [(2, .class_ 4), (1, u "java/lang/Object"), (0, u "<init>"), (0, u "()V"), (0, .methodref 8 9), (0, .class_ 10), (0, .nameAndType 11 12), (0, u "MacroAssembler"), (0, u "imageByte"), (0, u "(I)I"), (0, .long 8269), (1, .long 10995116277760), (1, .methodref 8 18), (0, .nameAndType 5 19), (0, u "(I)V"), (0, .long 742902912351281229), (1, .methodref 8 23), (0, .nameAndType 24 25), (0, u "feedLong"), (0, u "(J)I"), (0, .long 2324213976448781349), (1, .long 667996), (1, .long 44245995077), (1, .methodref 33 34), (0, .class_ 35), (0, .nameAndType 36 37), (0, u "MacroAssemblerL3"), (0, u "callLine"), (0, u "(I)J"), (0, .long 2870134647577162), (1, .long 11292011154762), (1, .long 92686604319301), (1, .methodref 8 45), (0, .nameAndType 46 47), (0, u "assemble"), (0, u "()I"), (0, .methodref 33 49), (0, .nameAndType 50 51), (0, u "op"), (0, u "(LMacroAssembler;II)I"), (0, .methodref 8 53), (0, .nameAndType 54 47), (0, u "imageLength"), (0, .methodref 8 56), (0, .nameAndType 57 47), (0, u "symbolCount"), (0, .methodref 8 59), (0, .nameAndType 60 12), (0, u "symbolValue"), (0, .methodref 8 62), (0, .nameAndType 63 64), (0, u "symbolNameChar"), (0, u "(II)I"), (0, .methodref 8 66), (0, .nameAndType 67 47), (0, u "expansionCount"), (0, .methodref 8 69), (0, .nameAndType 70 47), (0, u "errorLine"), (3, u "law"), (0, u "(III)Z")] 2

def k1m0 : Method := { name := "<init>", desc := "()V", sig := { parameters := [], returnType := none }, accessFlags := 1, code := none }
def k1c1 : Code := { maxStack := 3, maxLocals := 4, code := method_2_code, exceptionTable := #[], attributes := #[] }
def k1m1 : Method := { name := "op", desc := "(LMacroAssembler;II)I", sig := { parameters := [(.object "MacroAssembler"), .int, .int], returnType := some .int }, accessFlags := 10, code := some k1c1 }
def k1c2 : Code := { maxStack := 5, maxLocals := 3, code := method_3_code, exceptionTable := #[], attributes := #[] }
def k1m2 : Method := { name := "callLine", desc := "(I)J", sig := { parameters := [.int], returnType := some .long }, accessFlags := 10, code := some k1c2 }
def k1c3 : Code := { maxStack := 3, maxLocals := 10, code := code, exceptionTable := #[], attributes := #[] }
def k1m3 : Method := { name := "law", desc := "(III)Z", sig := { parameters := [.int, .int, .int], returnType := some .boolean }, accessFlags := 9, code := some k1c3 }
/-- MacroAssemblerL3 -/
def k1 : Class := { plain "MacroAssemblerL3" (some 0) with
  accessFlags := 49
  interfaces := #[]
  cf := some (fileOf pool1 33 #[] #[{ accessFlags := 1, nameIndex := 5, descriptorIndex := 6, attributes := #[] }, { accessFlags := 10, nameIndex := 50, descriptorIndex := 51, attributes := #[] }, { accessFlags := 10, nameIndex := 36, descriptorIndex := 37, attributes := #[] }, { accessFlags := 9, nameIndex := 74, descriptorIndex := 75, attributes := #[] }] 49 2 #[] #[])
  fields := #[]
  methods := #[k1m0, k1m1, k1m2, k1m3]
  instanceTypes := #[]
  staticTypes := #[]
  resolved := Array.replicate 78 none
  statics := none }

def pool2 : Array CpInfo := pool [(1, .methodref 2 3), (0, .class_ 4), (0, .nameAndType 5 6), (0, u "java/lang/Object"), (0, u "<init>"), (0, u "()V"), (0, .fieldref 8 9), (0, .class_ 10), (0, .nameAndType 11 12), (0, u "MacroAssembler"), (0, u "T_IDENT"), (0, u "I"), (0, .fieldref 8 14), (0, .nameAndType 15 12), (0, u "T_NUM"), (0, .fieldref 8 17), (0, .nameAndType 18 12), (0, u "B_IF"), (0, .fieldref 8 20), (0, .nameAndType 21 12), (0, u "B_REPT"), (0, .fieldref 8 23), (0, .nameAndType 24 12), (0, u "B_CALL"), (0, .fieldref 8 26), (0, .nameAndType 27 12), (0, u "M_NORMAL"), (0, .fieldref 8 29), (0, .nameAndType 30 12), (0, u "M_DEFINING"), (0, .fieldref 8 32), (0, .nameAndType 33 12), (0, u "M_SKIPPING"), (0, .fieldref 8 35), (0, .nameAndType 36 12), (0, u "K_FALSE"), (0, .fieldref 8 38), (0, .nameAndType 39 12), (0, u "K_ELSEPART"), (0, .fieldref 8 41), (0, .nameAndType 42 12), (0, u "K_REPT0"), (0, .fieldref 8 44), (0, .nameAndType 45 12), (0, u "KW_DB"), (0, .fieldref 8 47), (0, .nameAndType 48 12), (0, u "KW_EQU"), (0, .fieldref 8 50), (0, .nameAndType 51 12), (0, u "KW_MACRO"), (0, .fieldref 8 53), (0, .nameAndType 54 12), (0, u "KW_ENDM"), (0, .fieldref 8 56), (0, .nameAndType 57 12), (0, u "KW_IF"), (0, .fieldref 8 59), (0, .nameAndType 60 12), (0, u "KW_ELSE"), (0, .fieldref 8 62), (0, .nameAndType 63 12), (0, u "KW_ENDIF"), (0, .fieldref 8 65), (0, .nameAndType 66 12), (0, u "KW_REPT"), (0, .fieldref 8 68), (0, .nameAndType 69 12), (0, u "KW_ENDR"), (0, .fieldref 8 71), (0, .nameAndType 72 12), (0, u "ARG_SLOT"), (0, .fieldref 8 74), (0, .nameAndType 75 76), (0, u "src"), (0, u "[C"), (0, .fieldref 8 78), (0, .nameAndType 79 80), (0, u "lineStart"), (0, u "[I"), (0, .fieldref 8 82), (0, .nameAndType 83 80), (0, u "lineEnd"), (0, .fieldref 8 85), (0, .nameAndType 86 80), (0, u "img"), (0, .fieldref 8 88), (0, .nameAndType 89 90), (0, u "symCode"), (0, u "[J"), (0, .fieldref 8 92), (0, .nameAndType 93 80), (0, u "symVal"), (0, .fieldref 8 95), (0, .nameAndType 96 76), (0, u "lst"), (0, .fieldref 8 98), (0, .nameAndType 99 76), (0, u "dig"), (0, .fieldref 8 101), (0, .nameAndType 102 90), (0, u "macCode"), (0, .fieldref 8 104), (0, .nameAndType 105 80), (0, u "macStart"), (0, .fieldref 8 107), (0, .nameAndType 108 80), (0, u "macEnd"), (0, .fieldref 8 110), (0, .nameAndType 111 80), (0, u "bType"), (0, .fieldref 8 113), (0, .nameAndType 114 115), (0, u "bElse"), (0, u "[Z"), (0, .fieldref 8 117), (0, .nameAndType 118 80), (0, u "bRemain"), (0, .fieldref 8 120), (0, .nameAndType 121 80), (0, u "bRetMac"), (0, .fieldref 8 123), (0, .nameAndType 124 80), (0, u "bRetLine"), (0, .fieldref 8 126), (0, .nameAndType 127 80), (0, u "bK"), (0, .fieldref 8 129), (0, .nameAndType 130 80), (0, u "bErr"), (0, .fieldref 8 132), (0, .nameAndType 133 80), (0, u "bArgN"), (0, .fieldref 8 135), (0, .nameAndType 136 80), (0, u "argLen"), (0, .fieldref 8 138), (0, .nameAndType 139 76), (0, u "argCh"), (0, .fieldref 8 141), (0, .nameAndType 142 76), (0, u "ln"), (0, .fieldref 8 144), (0, .nameAndType 145 80), (0, u "tkType"), (0, .fieldref 8 147), (0, .nameAndType 148 80), (0, u "tkVal"), (0, .fieldref 8 150), (0, .nameAndType 151 90), (0, u "tkCode"), (0, .fieldref 8 153), (0, .nameAndType 154 90), (0, u "exUCode"), (0, .fieldref 8 156), (0, .nameAndType 157 80), (0, u "exUCoef"), (0, .fieldref 8 159), (0, .nameAndType 160 80), (0, u "fixAddr"), (0, .fieldref 8 162), (0, .nameAndType 163 80), (0, u "fixErr"), (0, .fieldref 8 165), (0, .nameAndType 166 80), (0, u "fixConst"), (0, .fieldref 8 168), (0, .nameAndType 169 80), (0, u "fixUN"), (0, .fieldref 8 171), (0, .nameAndType 172 115), (0, u "fixDoom"), (0, .fieldref 8 174), (0, .nameAndType 175 90), (0, u "fixUCode"), (0, .fieldref 8 177), (0, .nameAndType 178 80), (0, u "fixUCoef"), (0, .fieldref 8 180), (0, .nameAndType 181 12), (0, u "cap"), (0, .methodref 8 183), (0, .nameAndType 184 185), (0, u "validChar"), (0, u "(I)Z"), (0, .fieldref 8 187), (0, .nameAndType 188 12), (0, u "srcLen"), (0, .methodref 8 190), (0, .nameAndType 191 6), (0, u "resetResult"), (0, .methodref 8 193), (0, .nameAndType 194 195), (0, u "byteOf"), (0, u "(JI)I"), (0, .methodref 8 197), (0, .nameAndType 198 6), (0, u "startRun"), (0, .fieldref 8 200), (0, .nameAndType 201 202), (0, u "err"), (0, u "Z"), (0, .fieldref 8 204), (0, .nameAndType 205 202), (0, u "done"), (0, .methodref 8 207), (0, .nameAndType 208 6), (0, u "step"), (0, .fieldref 8 210), (0, .nameAndType 211 12), (0, u "nLines"), (0, .fieldref 8 213), (0, .nameAndType 214 12), (0, u "hLine"), (3, .methodref 8 219), (0, .nameAndType 220 6), (0, u "finish"), (0, .fieldref 8 222), (0, .nameAndType 223 12), (0, u "status"), (0, .fieldref 8 225), (0, .nameAndType 226 12), (0, u "errLine"), (0, .fieldref 8 228), (0, .nameAndType 229 12), (0, u "imgLen"), (0, .fieldref 8 231), (0, .nameAndType 232 12), (0, u "symN"), (0, .fieldref 8 234), (0, .nameAndType 235 12), (0, u "expCount"), (0, .fieldref 8 237), (0, .nameAndType 238 12), (0, u "lstLen"), (0, .fieldref 8 240), (0, .nameAndType 241 12), (0, u "loc"), (0, .fieldref 8 243), (0, .nameAndType 244 12), (0, u "counter"), (0, .methodref 8 246), (0, .nameAndType 247 6), (0, u "buildListing"), (0, .methodref 8 249), (0, .nameAndType 250 251), (0, u "imageLength"), (0, u "()I"), (0, .methodref 8 253), (0, .nameAndType 254 251), (0, u "symbolCount"), (0, .methodref 8 256), (0, .nameAndType 257 258), (0, u "nameLen"), (0, u "(J)I"), (0, .methodref 8 260), (0, .nameAndType 261 262), (0, u "nameChar"), (0, u "(JII)I"), (3, .long 255), (1, .methodref 8 269), (0, .nameAndType 270 185), (0, u "identStart"), (0, .methodref 8 272), (0, .nameAndType 273 185), (0, u "isDigit"), (0, .fieldref 8 275), (0, .nameAndType 276 12), (0, u "lnLen"), (0, .methodref 8 278), (0, .nameAndType 279 185), (0, u "identChar"), (0, .long 18446744073709551615), (1, .long 128), (1, .methodref 8 285), (0, .nameAndType 286 287), (0, u "identEnd"), (0, u "(I)I"), (0, .methodref 8 289), (0, .nameAndType 290 291), (0, u "pack"), (0, u "(II)J"), (0, .methodref 8 293), (0, .nameAndType 294 287), (0, u "skipSpaces"), (0, .methodref 8 296), (0, .nameAndType 297 298), (0, u "wordAt"), (0, u "(I)J"), (0, .long 127), (1, .methodref 8 302), (0, .nameAndType 303 304), (0, u "word"), (0, u "(IIIII)J"), (0, .long 18446744073709551614), (1, .methodref 8 308), (0, .nameAndType 309 298), (0, u "kwCode"), (0, .fieldref 8 311), (0, .nameAndType 312 12), (0, u "macN"), (0, .fieldref 8 314), (0, .nameAndType 315 12), (0, u "digFrom"), (0, .fieldref 8 317), (0, .nameAndType 318 12), (0, u "sp"), (0, .fieldref 8 320), (0, .nameAndType 321 12), (0, u "reads"), (0, .fieldref 8 323), (0, .nameAndType 324 12), (0, u "fixN"), (0, .fieldref 8 326), (0, .nameAndType 327 12), (0, u "mode"), (0, .fieldref 8 329), (0, .nameAndType 330 12), (0, u "skipKind"), (0, .fieldref 8 332), (0, .nameAndType 333 12), (0, u "skipDepth"), (0, .fieldref 8 335), (0, .nameAndType 336 12), (0, u "defMac"), (0, .methodref 8 338), (0, .nameAndType 339 6), (0, u "splitLines"), (0, .methodref 8 341), (0, .nameAndType 342 343), (0, u "setInput"), (0, u "(II)V"), (0, .fieldref 8 345), (0, .nameAndType 346 12), (0, u "curMac"), (0, .fieldref 8 348), (0, .nameAndType 349 12), (0, u "curLine"), (0, .fieldref 8 351), (0, .nameAndType 352 12), (0, u "curEnd"), (0, .methodref 8 354), (0, .nameAndType 355 6), (0, u "exhausted"), (0, .methodref 8 357), (0, .nameAndType 358 251), (0, u "outerLine"), (0, .methodref 8 360), (0, .nameAndType 361 362), (0, u "copyLine"), (0, u "(I)V"), (0, .methodref 8 364), (0, .nameAndType 365 362), (0, u "substitute"), (0, .methodref 8 367), (0, .nameAndType 368 362), (0, u "defLine"), (3, .methodref 8 373), (0, .nameAndType 374 6), (0, u "normalLine"), (0, .methodref 8 376), (0, .nameAndType 377 251), (0, u "topCall"), (0, .methodref 8 379), (0, .nameAndType 380 343), (0, u "putArg"), (0, .methodref 8 382), (0, .nameAndType 383 384), (0, u "putLocal"), (0, u "(III)I"), (0, .methodref 8 386), (0, .nameAndType 387 362), (0, u "put"), (0, .methodref 8 389), (0, .nameAndType 390 362), (0, u "toDigits"), (0, .methodref 8 392), (0, .nameAndType 393 298), (0, u "firstWord"), (0, .methodref 8 395), (0, .nameAndType 396 258), (0, u "kwIndex"), (0, .methodref 8 398), (0, .nameAndType 399 6), (0, u "findLabel"), (0, .fieldref 8 401), (0, .nameAndType 402 12), (0, u "restAt"), (0, .methodref 8 404), (0, .nameAndType 405 6), (0, u "defineLabel"), (3, .methodref 8 410), (0, .nameAndType 411 6), (0, u "formMacro"), (0, .methodref 8 413), (0, .nameAndType 414 362), (0, u "statement"), (0, .methodref 8 416), (0, .nameAndType 417 258), (0, u "macroFind"), (0, .methodref 8 419), (0, .nameAndType 420 343), (0, u "callMacro"), (0, .fieldref 8 422), (0, .nameAndType 423 202), (0, u "hasLabel"), (0, .fieldref 8 425), (0, .nameAndType 426 427), (0, u "labelCode"), (0, u "J"), (0, .methodref 8 429), (0, .nameAndType 430 431), (0, u "define"), (0, u "(JI)V"), (0, .methodref 8 433), (0, .nameAndType 434 258), (0, u "symFind"), (0, .methodref 8 436), (0, .nameAndType 437 362), (0, u "tokenize"), (0, .methodref 8 439), (0, .nameAndType 440 362), (0, u "formSimple"), (0, .methodref 8 442), (0, .nameAndType 443 362), (0, u "formOperand"), (6, .fieldref 8 451), (0, .nameAndType 452 12), (0, u "tkN"), (3, .methodref 8 457), (0, .nameAndType 458 362), (0, u "emit"), (0, .methodref 8 460), (0, .nameAndType 461 287), (0, u "parseExpr"), (0, .fieldref 8 463), (0, .nameAndType 464 202), (0, u "exUnknown"), (0, .fieldref 8 466), (0, .nameAndType 467 12), (0, u "exConst"), (0, .methodref 8 469), (0, .nameAndType 470 362), (0, u "addFixup"), (15, .methodref 8 487), (0, .nameAndType 488 185), (0, u "push"), (3, .methodref 8 493), (0, .nameAndType 494 495), (0, u "countArgs"), (0, u "(II)I"), (0, .methodref 8 497), (0, .nameAndType 498 499), (0, u "splitArgs"), (0, u "(III)V"), (0, .methodref 8 501), (0, .nameAndType 502 499), (0, u "storeArg"), (0, .methodref 8 504), (0, .nameAndType 505 506), (0, u "addTok"), (0, u "(IIJ)V"), (0, .methodref 8 508), (0, .nameAndType 509 287), (0, u "lexNumber"), (0, .fieldref 8 511), (0, .nameAndType 512 12), (0, u "exUN"), (0, .fieldref 8 514), (0, .nameAndType 515 202), (0, u "exDoom"), (0, .methodref 8 517), (0, .nameAndType 518 431), (0, u "addIdent"), (0, .methodref 8 520), (0, .nameAndType 521 362), (0, u "lstPut"), (0, .methodref 8 523), (0, .nameAndType 524 525), (0, u "putName"), (0, u "(J)V"), (0, .methodref 8 527), (0, .nameAndType 528 362), (0, u "putKw"), (0, .methodref 8 530), (0, .nameAndType 531 362), (0, u "putNum"), (0, .methodref 8 533), (0, .nameAndType 534 287), (0, u "listOne"), (0, u "STATUS_NONE"), (2, u "STATUS_OK"), (1, u "STATUS_ERROR"), (1, u "SOURCE_CAP"), (1, u "MAX_SYMBOLS"), (1, u "MAX_NAME"), (1, u "MAX_MACROS"), (0, u "MAX_ARGS"), (1, u "MAX_DEPTH"), (0, u "MAX_READS"), (1, u "MAX_SUBST_LINE"), (1, u "MAX_REPT"), (0, u "OP_NOP"), (0, u "OP_HLT"), (0, u "OP_INC"), (0, u "OP_DEC"), (1, u "CODE_LDA"), (0, u "CODE_STA"), (0, u "CODE_ADD"), (0, u "CODE_SUB"), (0, u "CODE_JMP"), (1, u "CODE_JZ"), (1, u "SHORT_BASE"), (0, u "LONG_BASE"), (14, u "feedLong"), (1, u "assemble"), (0, u "errorLine"), (1, u "imageByte"), (0, u "symbolValue"), (0, u "symbolNameChar"), (0, u "expansionCount")] 4

def k2c0 : Code := { maxStack := 2, maxLocals := 3, code := prog_1_method_1_code, exceptionTable := #[], attributes := #[] }
def k2m0 : Method := { name := "<init>", desc := "(I)V", sig := { parameters := [.int], returnType := none }, accessFlags := 1, code := some k2c0 }
def k2c1 : Code := { maxStack := 6, maxLocals := 6, code := prog_1_method_3_code, exceptionTable := #[], attributes := #[] }
def k2m1 : Method := { name := "feedLong", desc := "(J)I", sig := { parameters := [.long], returnType := some .int }, accessFlags := 1, code := some k2c1 }
def k2c2 : Code := { maxStack := 3, maxLocals := 2, code := prog_1_method_5_code, exceptionTable := #[], attributes := #[] }
def k2m2 : Method := { name := "assemble", desc := "()I", sig := { parameters := [], returnType := some .int }, accessFlags := 1, code := some k2c2 }
def k2c3 : Code := { maxStack := 2, maxLocals := 1, code := prog_1_method_7_code, exceptionTable := #[], attributes := #[] }
def k2m3 : Method := { name := "errorLine", desc := "()I", sig := { parameters := [], returnType := some .int }, accessFlags := 1, code := some k2c3 }
def k2c4 : Code := { maxStack := 2, maxLocals := 1, code := prog_1_method_9_code, exceptionTable := #[], attributes := #[] }
def k2m4 : Method := { name := "imageLength", desc := "()I", sig := { parameters := [], returnType := some .int }, accessFlags := 1, code := some k2c4 }
def k2c5 : Code := { maxStack := 2, maxLocals := 2, code := prog_1_method_10_code, exceptionTable := #[], attributes := #[] }
def k2m5 : Method := { name := "imageByte", desc := "(I)I", sig := { parameters := [.int], returnType := some .int }, accessFlags := 1, code := some k2c5 }
def k2c6 : Code := { maxStack := 2, maxLocals := 1, code := prog_1_method_11_code, exceptionTable := #[], attributes := #[] }
def k2m6 : Method := { name := "symbolCount", desc := "()I", sig := { parameters := [], returnType := some .int }, accessFlags := 1, code := some k2c6 }
def k2c7 : Code := { maxStack := 2, maxLocals := 2, code := prog_1_method_12_code, exceptionTable := #[], attributes := #[] }
def k2m7 : Method := { name := "symbolValue", desc := "(I)I", sig := { parameters := [.int], returnType := some .int }, accessFlags := 1, code := some k2c7 }
def k2c8 : Code := { maxStack := 5, maxLocals := 4, code := prog_1_method_13_code, exceptionTable := #[], attributes := #[] }
def k2m8 : Method := { name := "symbolNameChar", desc := "(II)I", sig := { parameters := [.int, .int], returnType := some .int }, accessFlags := 1, code := some k2c8 }
def k2c9 : Code := { maxStack := 2, maxLocals := 1, code := prog_1_method_14_code, exceptionTable := #[], attributes := #[] }
def k2m9 : Method := { name := "expansionCount", desc := "()I", sig := { parameters := [], returnType := some .int }, accessFlags := 1, code := some k2c9 }
def k2c10 : Code := { maxStack := 2, maxLocals := 2, code := prog_1_method_18_code, exceptionTable := #[], attributes := #[] }
def k2m10 : Method := { name := "validChar", desc := "(I)Z", sig := { parameters := [.int], returnType := some .boolean }, accessFlags := 2, code := some k2c10 }
def k2c11 : Code := { maxStack := 4, maxLocals := 4, code := prog_1_method_19_code, exceptionTable := #[], attributes := #[] }
def k2m11 : Method := { name := "byteOf", desc := "(JI)I", sig := { parameters := [.long, .int], returnType := some .int }, accessFlags := 2, code := some k2c11 }
def k2c12 : Code := { maxStack := 2, maxLocals := 1, code := prog_1_method_20_code, exceptionTable := #[], attributes := #[] }
def k2m12 : Method := { name := "resetResult", desc := "()V", sig := { parameters := [], returnType := none }, accessFlags := 2, code := some k2c12 }
def k2c13 : Code := { maxStack := 2, maxLocals := 2, code := prog_1_method_22_code, exceptionTable := #[], attributes := #[] }
def k2m13 : Method := { name := "isDigit", desc := "(I)Z", sig := { parameters := [.int], returnType := some .boolean }, accessFlags := 2, code := some k2c13 }
def k2c14 : Code := { maxStack := 2, maxLocals := 2, code := prog_1_method_23_code, exceptionTable := #[], attributes := #[] }
def k2m14 : Method := { name := "identStart", desc := "(I)Z", sig := { parameters := [.int], returnType := some .boolean }, accessFlags := 2, code := some k2c14 }
def k2c15 : Code := { maxStack := 2, maxLocals := 2, code := prog_1_method_24_code, exceptionTable := #[], attributes := #[] }
def k2m15 : Method := { name := "identChar", desc := "(I)Z", sig := { parameters := [.int], returnType := some .boolean }, accessFlags := 2, code := some k2c15 }
def k2c16 : Code := { maxStack := 2, maxLocals := 4, code := prog_1_method_25_code, exceptionTable := #[], attributes := #[] }
def k2m16 : Method := { name := "skipSpaces", desc := "(I)I", sig := { parameters := [.int], returnType := some .int }, accessFlags := 2, code := some k2c16 }
def k2c17 : Code := { maxStack := 3, maxLocals := 4, code := prog_1_method_26_code, exceptionTable := #[], attributes := #[] }
def k2m17 : Method := { name := "identEnd", desc := "(I)I", sig := { parameters := [.int], returnType := some .int }, accessFlags := 2, code := some k2c17 }
def k2c18 : Code := { maxStack := 4, maxLocals := 6, code := prog_1_method_27_code, exceptionTable := #[], attributes := #[] }
def k2m18 : Method := { name := "pack", desc := "(II)J", sig := { parameters := [.int, .int], returnType := some .long }, accessFlags := 2, code := some k2c18 }
def k2c19 : Code := { maxStack := 3, maxLocals := 3, code := prog_1_method_28_code, exceptionTable := #[], attributes := #[] }
def k2m19 : Method := { name := "wordAt", desc := "(I)J", sig := { parameters := [.int], returnType := some .long }, accessFlags := 2, code := some k2c19 }
def k2c20 : Code := { maxStack := 2, maxLocals := 3, code := prog_1_method_29_code, exceptionTable := #[], attributes := #[] }
def k2m20 : Method := { name := "firstWord", desc := "(I)J", sig := { parameters := [.int], returnType := some .long }, accessFlags := 2, code := some k2c20 }
def k2c21 : Code := { maxStack := 4, maxLocals := 7, code := prog_1_method_30_code, exceptionTable := #[], attributes := #[] }
def k2m21 : Method := { name := "nameLen", desc := "(J)I", sig := { parameters := [.long], returnType := some .int }, accessFlags := 2, code := some k2c21 }
def k2c22 : Code := { maxStack := 5, maxLocals := 5, code := prog_1_method_31_code, exceptionTable := #[], attributes := #[] }
def k2m22 : Method := { name := "nameChar", desc := "(JII)I", sig := { parameters := [.long, .int, .int], returnType := some .int }, accessFlags := 2, code := some k2c22 }
def k2c23 : Code := { maxStack := 4, maxLocals := 8, code := prog_1_method_32_code, exceptionTable := #[], attributes := #[] }
def k2m23 : Method := { name := "word", desc := "(IIIII)J", sig := { parameters := [.int, .int, .int, .int, .int], returnType := some .long }, accessFlags := 2, code := some k2c23 }
def k2c24 : Code := { maxStack := 6, maxLocals := 2, code := prog_1_method_33_code, exceptionTable := #[], attributes := #[] }
def k2m24 : Method := { name := "kwCode", desc := "(I)J", sig := { parameters := [.int], returnType := some .long }, accessFlags := 2, code := some k2c24 }
def k2c25 : Code := { maxStack := 4, maxLocals := 4, code := prog_1_method_34_code, exceptionTable := #[], attributes := #[] }
def k2m25 : Method := { name := "kwIndex", desc := "(J)I", sig := { parameters := [.long], returnType := some .int }, accessFlags := 2, code := some k2c25 }
def k2c26 : Code := { maxStack := 4, maxLocals := 4, code := prog_1_method_35_code, exceptionTable := #[], attributes := #[] }
def k2m26 : Method := { name := "symFind", desc := "(J)I", sig := { parameters := [.long], returnType := some .int }, accessFlags := 2, code := some k2c26 }
def k2c27 : Code := { maxStack := 4, maxLocals := 4, code := prog_1_method_36_code, exceptionTable := #[], attributes := #[] }
def k2m27 : Method := { name := "macroFind", desc := "(J)I", sig := { parameters := [.long], returnType := some .int }, accessFlags := 2, code := some k2c27 }
def k2c28 : Code := { maxStack := 5, maxLocals := 5, code := prog_1_method_37_code, exceptionTable := #[], attributes := #[] }
def k2m28 : Method := { name := "toDigits", desc := "(I)V", sig := { parameters := [.int], returnType := none }, accessFlags := 2, code := some k2c28 }
def k2c29 : Code := { maxStack := 3, maxLocals := 1, code := prog_1_method_38_code, exceptionTable := #[], attributes := #[] }
def k2m29 : Method := { name := "startRun", desc := "()V", sig := { parameters := [], returnType := none }, accessFlags := 2, code := some k2c29 }
def k2c30 : Code := { maxStack := 3, maxLocals := 3, code := prog_1_method_39_code, exceptionTable := #[], attributes := #[] }
def k2m30 : Method := { name := "splitLines", desc := "()V", sig := { parameters := [], returnType := none }, accessFlags := 2, code := some k2c30 }
def k2c31 : Code := { maxStack := 3, maxLocals := 3, code := prog_1_method_40_code, exceptionTable := #[], attributes := #[] }
def k2m31 : Method := { name := "setInput", desc := "(II)V", sig := { parameters := [.int, .int], returnType := none }, accessFlags := 2, code := some k2c31 }
def k2c32 : Code := { maxStack := 3, maxLocals := 2, code := prog_1_method_41_code, exceptionTable := #[], attributes := #[] }
def k2m32 : Method := { name := "step", desc := "()V", sig := { parameters := [], returnType := none }, accessFlags := 2, code := some k2c32 }
def k2c33 : Code := { maxStack := 4, maxLocals := 1, code := prog_1_method_42_code, exceptionTable := #[], attributes := #[] }
def k2m33 : Method := { name := "exhausted", desc := "()V", sig := { parameters := [], returnType := none }, accessFlags := 2, code := some k2c33 }
def k2c34 : Code := { maxStack := 2, maxLocals := 2, code := prog_1_method_43_code, exceptionTable := #[], attributes := #[] }
def k2m34 : Method := { name := "outerLine", desc := "()I", sig := { parameters := [], returnType := some .int }, accessFlags := 2, code := some k2c34 }
def k2c35 : Code := { maxStack := 2, maxLocals := 2, code := prog_1_method_44_code, exceptionTable := #[], attributes := #[] }
def k2m35 : Method := { name := "topCall", desc := "()I", sig := { parameters := [], returnType := some .int }, accessFlags := 2, code := some k2c35 }
def k2c36 : Code := { maxStack := 4, maxLocals := 3, code := prog_1_method_45_code, exceptionTable := #[], attributes := #[] }
def k2m36 : Method := { name := "copyLine", desc := "(I)V", sig := { parameters := [.int], returnType := none }, accessFlags := 2, code := some k2c36 }
def k2c37 : Code := { maxStack := 5, maxLocals := 8, code := prog_1_method_46_code, exceptionTable := #[], attributes := #[] }
def k2m37 : Method := { name := "substitute", desc := "(I)V", sig := { parameters := [.int], returnType := none }, accessFlags := 2, code := some k2c37 }
def k2c38 : Code := { maxStack := 3, maxLocals := 2, code := prog_1_method_47_code, exceptionTable := #[], attributes := #[] }
def k2m38 : Method := { name := "put", desc := "(I)V", sig := { parameters := [.int], returnType := none }, accessFlags := 2, code := some k2c38 }
def k2c39 : Code := { maxStack := 4, maxLocals := 5, code := prog_1_method_48_code, exceptionTable := #[], attributes := #[] }
def k2m39 : Method := { name := "putArg", desc := "(II)V", sig := { parameters := [.int, .int], returnType := none }, accessFlags := 2, code := some k2c39 }
def k2c40 : Code := { maxStack := 3, maxLocals := 6, code := prog_1_method_49_code, exceptionTable := #[], attributes := #[] }
def k2m40 : Method := { name := "putLocal", desc := "(III)I", sig := { parameters := [.int, .int, .int], returnType := some .int }, accessFlags := 2, code := some k2c40 }
def k2c41 : Code := { maxStack := 4, maxLocals := 4, code := prog_1_method_50_code, exceptionTable := #[], attributes := #[] }
def k2m41 : Method := { name := "defLine", desc := "(I)V", sig := { parameters := [.int], returnType := none }, accessFlags := 2, code := some k2c41 }
def k2c42 : Code := { maxStack := 4, maxLocals := 10, code := prog_1_method_53_code, exceptionTable := #[], attributes := #[] }
def k2m42 : Method := { name := "normalLine", desc := "()V", sig := { parameters := [], returnType := none }, accessFlags := 2, code := some k2c42 }
def k2c43 : Code := { maxStack := 4, maxLocals := 4, code := prog_1_method_54_code, exceptionTable := #[], attributes := #[] }
def k2m43 : Method := { name := "findLabel", desc := "()V", sig := { parameters := [], returnType := none }, accessFlags := 2, code := some k2c43 }
def k2c44 : Code := { maxStack := 4, maxLocals := 1, code := prog_1_method_55_code, exceptionTable := #[], attributes := #[] }
def k2m44 : Method := { name := "defineLabel", desc := "()V", sig := { parameters := [], returnType := none }, accessFlags := 2, code := some k2c44 }
def k2c45 : Code := { maxStack := 4, maxLocals := 4, code := prog_1_method_56_code, exceptionTable := #[], attributes := #[] }
def k2m45 : Method := { name := "define", desc := "(JI)V", sig := { parameters := [.long, .int], returnType := none }, accessFlags := 2, code := some k2c45 }
def k2c46 : Code := { maxStack := 4, maxLocals := 2, code := prog_1_method_57_code, exceptionTable := #[], attributes := #[] }
def k2m46 : Method := { name := "emit", desc := "(I)V", sig := { parameters := [.int], returnType := none }, accessFlags := 2, code := some k2c46 }
def k2c47 : Code := { maxStack := 3, maxLocals := 2, code := prog_1_method_58_code, exceptionTable := #[], attributes := #[] }
def k2m47 : Method := { name := "statement", desc := "(I)V", sig := { parameters := [.int], returnType := none }, accessFlags := 2, code := some k2c47 }
def k2c48 : Code := { maxStack := 4, maxLocals := 3, code := prog_1_method_60_code, exceptionTable := #[], attributes := #[] }
def k2m48 : Method := { name := "formMacro", desc := "()V", sig := { parameters := [], returnType := none }, accessFlags := 2, code := some k2c48 }
def k2c49 : Code := { maxStack := 2, maxLocals := 2, code := prog_1_method_61_code, exceptionTable := #[], attributes := #[] }
def k2m49 : Method := { name := "formSimple", desc := "(I)V", sig := { parameters := [.int], returnType := none }, accessFlags := 2, code := some k2c49 }
def k2c50 : Code := { maxStack := 3, maxLocals := 5, code := prog_1_method_62_code, exceptionTable := #[], attributes := #[] }
def k2m50 : Method := { name := "formOperand", desc := "(I)V", sig := { parameters := [.int], returnType := none }, accessFlags := 2, code := some k2c50 }
def k2c51 : Code := { maxStack := 3, maxLocals := 2, code := prog_1_method_65_code, exceptionTable := #[], attributes := #[] }
def k2m51 : Method := { name := "push", desc := "(I)Z", sig := { parameters := [.int], returnType := some .boolean }, accessFlags := 2, code := some k2c51 }
def k2c52 : Code := { maxStack := 4, maxLocals := 6, code := prog_1_method_71_code, exceptionTable := #[], attributes := #[] }
def k2m52 : Method := { name := "callMacro", desc := "(II)V", sig := { parameters := [.int, .int], returnType := none }, accessFlags := 2, code := some k2c52 }
def k2c53 : Code := { maxStack := 2, maxLocals := 6, code := prog_1_method_72_code, exceptionTable := #[], attributes := #[] }
def k2m53 : Method := { name := "countArgs", desc := "(II)I", sig := { parameters := [.int, .int], returnType := some .int }, accessFlags := 2, code := some k2c53 }
def k2c54 : Code := { maxStack := 4, maxLocals := 7, code := prog_1_method_73_code, exceptionTable := #[], attributes := #[] }
def k2m54 : Method := { name := "splitArgs", desc := "(III)V", sig := { parameters := [.int, .int, .int], returnType := none }, accessFlags := 2, code := some k2c54 }
def k2c55 : Code := { maxStack := 5, maxLocals := 8, code := prog_1_method_74_code, exceptionTable := #[], attributes := #[] }
def k2m55 : Method := { name := "storeArg", desc := "(III)V", sig := { parameters := [.int, .int, .int], returnType := none }, accessFlags := 2, code := some k2c55 }
def k2c56 : Code := { maxStack := 5, maxLocals := 8, code := prog_1_method_75_code, exceptionTable := #[], attributes := #[] }
def k2m56 : Method := { name := "tokenize", desc := "(I)V", sig := { parameters := [.int], returnType := none }, accessFlags := 2, code := some k2c56 }
def k2c57 : Code := { maxStack := 5, maxLocals := 5, code := prog_1_method_76_code, exceptionTable := #[], attributes := #[] }
def k2m57 : Method := { name := "lexNumber", desc := "(I)I", sig := { parameters := [.int], returnType := some .int }, accessFlags := 2, code := some k2c57 }
def k2c58 : Code := { maxStack := 4, maxLocals := 5, code := prog_1_method_77_code, exceptionTable := #[], attributes := #[] }
def k2m58 : Method := { name := "addTok", desc := "(IIJ)V", sig := { parameters := [.int, .int, .long], returnType := none }, accessFlags := 2, code := some k2c58 }
def k2c59 : Code := { maxStack := 5, maxLocals := 7, code := prog_1_method_78_code, exceptionTable := #[], attributes := #[] }
def k2m59 : Method := { name := "parseExpr", desc := "(I)I", sig := { parameters := [.int], returnType := some .int }, accessFlags := 2, code := some k2c59 }
def k2c60 : Code := { maxStack := 5, maxLocals := 6, code := prog_1_method_79_code, exceptionTable := #[], attributes := #[] }
def k2m60 : Method := { name := "addIdent", desc := "(JI)V", sig := { parameters := [.long, .int], returnType := none }, accessFlags := 2, code := some k2c60 }
def k2c61 : Code := { maxStack := 4, maxLocals := 3, code := prog_1_method_81_code, exceptionTable := #[], attributes := #[] }
def k2m61 : Method := { name := "addFixup", desc := "(I)V", sig := { parameters := [.int], returnType := none }, accessFlags := 2, code := some k2c61 }
def k2c62 : Code := { maxStack := 4, maxLocals := 5, code := prog_1_method_82_code, exceptionTable := #[], attributes := #[] }
def k2m62 : Method := { name := "finish", desc := "()V", sig := { parameters := [], returnType := none }, accessFlags := 2, code := some k2c62 }
def k2c63 : Code := { maxStack := 3, maxLocals := 2, code := prog_1_method_83_code, exceptionTable := #[], attributes := #[] }
def k2m63 : Method := { name := "lstPut", desc := "(I)V", sig := { parameters := [.int], returnType := none }, accessFlags := 2, code := some k2c63 }
def k2c64 : Code := { maxStack := 5, maxLocals := 6, code := prog_1_method_84_code, exceptionTable := #[], attributes := #[] }
def k2m64 : Method := { name := "putName", desc := "(J)V", sig := { parameters := [.long], returnType := none }, accessFlags := 2, code := some k2c64 }
def k2c65 : Code := { maxStack := 3, maxLocals := 4, code := prog_1_method_85_code, exceptionTable := #[], attributes := #[] }
def k2m65 : Method := { name := "putKw", desc := "(I)V", sig := { parameters := [.int], returnType := none }, accessFlags := 2, code := some k2c65 }
def k2c66 : Code := { maxStack := 3, maxLocals := 3, code := prog_1_method_86_code, exceptionTable := #[], attributes := #[] }
def k2m66 : Method := { name := "putNum", desc := "(I)V", sig := { parameters := [.int], returnType := none }, accessFlags := 2, code := some k2c66 }
def k2c67 : Code := { maxStack := 3, maxLocals := 3, code := prog_1_method_87_code, exceptionTable := #[], attributes := #[] }
def k2m67 : Method := { name := "buildListing", desc := "()V", sig := { parameters := [], returnType := none }, accessFlags := 2, code := some k2c67 }
def k2c68 : Code := { maxStack := 4, maxLocals := 3, code := prog_1_method_88_code, exceptionTable := #[], attributes := #[] }
def k2m68 : Method := { name := "listOne", desc := "(I)I", sig := { parameters := [.int], returnType := some .int }, accessFlags := 2, code := some k2c68 }
/-- MacroAssembler -/
def k2 : Class := { plain "MacroAssembler" (some 0) with
  accessFlags := 49
  interfaces := #[]
  cf := some (fileOf pool2 8 #[] #[{ accessFlags := 1, nameIndex := 5, descriptorIndex := 362, attributes := #[] }, { accessFlags := 1, nameIndex := 586, descriptorIndex := 258, attributes := #[] }, { accessFlags := 1, nameIndex := 588, descriptorIndex := 251, attributes := #[] }, { accessFlags := 1, nameIndex := 589, descriptorIndex := 251, attributes := #[] }, { accessFlags := 1, nameIndex := 250, descriptorIndex := 251, attributes := #[] }, { accessFlags := 1, nameIndex := 591, descriptorIndex := 287, attributes := #[] }, { accessFlags := 1, nameIndex := 254, descriptorIndex := 251, attributes := #[] }, { accessFlags := 1, nameIndex := 592, descriptorIndex := 287, attributes := #[] }, { accessFlags := 1, nameIndex := 593, descriptorIndex := 495, attributes := #[] }, { accessFlags := 1, nameIndex := 594, descriptorIndex := 251, attributes := #[] }, { accessFlags := 2, nameIndex := 184, descriptorIndex := 185, attributes := #[] }, { accessFlags := 2, nameIndex := 194, descriptorIndex := 195, attributes := #[] }, { accessFlags := 2, nameIndex := 191, descriptorIndex := 6, attributes := #[] }, { accessFlags := 2, nameIndex := 273, descriptorIndex := 185, attributes := #[] }, { accessFlags := 2, nameIndex := 270, descriptorIndex := 185, attributes := #[] }, { accessFlags := 2, nameIndex := 279, descriptorIndex := 185, attributes := #[] }, { accessFlags := 2, nameIndex := 294, descriptorIndex := 287, attributes := #[] }, { accessFlags := 2, nameIndex := 286, descriptorIndex := 287, attributes := #[] }, { accessFlags := 2, nameIndex := 290, descriptorIndex := 291, attributes := #[] }, { accessFlags := 2, nameIndex := 297, descriptorIndex := 298, attributes := #[] }, { accessFlags := 2, nameIndex := 393, descriptorIndex := 298, attributes := #[] }, { accessFlags := 2, nameIndex := 257, descriptorIndex := 258, attributes := #[] }, { accessFlags := 2, nameIndex := 261, descriptorIndex := 262, attributes := #[] }, { accessFlags := 2, nameIndex := 303, descriptorIndex := 304, attributes := #[] }, { accessFlags := 2, nameIndex := 309, descriptorIndex := 298, attributes := #[] }, { accessFlags := 2, nameIndex := 396, descriptorIndex := 258, attributes := #[] }, { accessFlags := 2, nameIndex := 434, descriptorIndex := 258, attributes := #[] }, { accessFlags := 2, nameIndex := 417, descriptorIndex := 258, attributes := #[] }, { accessFlags := 2, nameIndex := 390, descriptorIndex := 362, attributes := #[] }, { accessFlags := 2, nameIndex := 198, descriptorIndex := 6, attributes := #[] }, { accessFlags := 2, nameIndex := 339, descriptorIndex := 6, attributes := #[] }, { accessFlags := 2, nameIndex := 342, descriptorIndex := 343, attributes := #[] }, { accessFlags := 2, nameIndex := 208, descriptorIndex := 6, attributes := #[] }, { accessFlags := 2, nameIndex := 355, descriptorIndex := 6, attributes := #[] }, { accessFlags := 2, nameIndex := 358, descriptorIndex := 251, attributes := #[] }, { accessFlags := 2, nameIndex := 377, descriptorIndex := 251, attributes := #[] }, { accessFlags := 2, nameIndex := 361, descriptorIndex := 362, attributes := #[] }, { accessFlags := 2, nameIndex := 365, descriptorIndex := 362, attributes := #[] }, { accessFlags := 2, nameIndex := 387, descriptorIndex := 362, attributes := #[] }, { accessFlags := 2, nameIndex := 380, descriptorIndex := 343, attributes := #[] }, { accessFlags := 2, nameIndex := 383, descriptorIndex := 384, attributes := #[] }, { accessFlags := 2, nameIndex := 368, descriptorIndex := 362, attributes := #[] }, { accessFlags := 2, nameIndex := 374, descriptorIndex := 6, attributes := #[] }, { accessFlags := 2, nameIndex := 399, descriptorIndex := 6, attributes := #[] }, { accessFlags := 2, nameIndex := 405, descriptorIndex := 6, attributes := #[] }, { accessFlags := 2, nameIndex := 430, descriptorIndex := 431, attributes := #[] }, { accessFlags := 2, nameIndex := 458, descriptorIndex := 362, attributes := #[] }, { accessFlags := 2, nameIndex := 414, descriptorIndex := 362, attributes := #[] }, { accessFlags := 2, nameIndex := 411, descriptorIndex := 6, attributes := #[] }, { accessFlags := 2, nameIndex := 440, descriptorIndex := 362, attributes := #[] }, { accessFlags := 2, nameIndex := 443, descriptorIndex := 362, attributes := #[] }, { accessFlags := 2, nameIndex := 488, descriptorIndex := 185, attributes := #[] }, { accessFlags := 2, nameIndex := 420, descriptorIndex := 343, attributes := #[] }, { accessFlags := 2, nameIndex := 494, descriptorIndex := 495, attributes := #[] }, { accessFlags := 2, nameIndex := 498, descriptorIndex := 499, attributes := #[] }, { accessFlags := 2, nameIndex := 502, descriptorIndex := 499, attributes := #[] }, { accessFlags := 2, nameIndex := 437, descriptorIndex := 362, attributes := #[] }, { accessFlags := 2, nameIndex := 509, descriptorIndex := 287, attributes := #[] }, { accessFlags := 2, nameIndex := 505, descriptorIndex := 506, attributes := #[] }, { accessFlags := 2, nameIndex := 461, descriptorIndex := 287, attributes := #[] }, { accessFlags := 2, nameIndex := 518, descriptorIndex := 431, attributes := #[] }, { accessFlags := 2, nameIndex := 470, descriptorIndex := 362, attributes := #[] }, { accessFlags := 2, nameIndex := 220, descriptorIndex := 6, attributes := #[] }, { accessFlags := 2, nameIndex := 521, descriptorIndex := 362, attributes := #[] }, { accessFlags := 2, nameIndex := 524, descriptorIndex := 525, attributes := #[] }, { accessFlags := 2, nameIndex := 528, descriptorIndex := 362, attributes := #[] }, { accessFlags := 2, nameIndex := 531, descriptorIndex := 362, attributes := #[] }, { accessFlags := 2, nameIndex := 247, descriptorIndex := 6, attributes := #[] }, { accessFlags := 2, nameIndex := 534, descriptorIndex := 287, attributes := #[] }] 49 2 #[] #[{ accessFlags := 25, nameIndex := 535, descriptorIndex := 12, attributes := #[] }, { accessFlags := 25, nameIndex := 538, descriptorIndex := 12, attributes := #[] }, { accessFlags := 25, nameIndex := 540, descriptorIndex := 12, attributes := #[] }, { accessFlags := 25, nameIndex := 542, descriptorIndex := 12, attributes := #[] }, { accessFlags := 25, nameIndex := 544, descriptorIndex := 12, attributes := #[] }, { accessFlags := 25, nameIndex := 546, descriptorIndex := 12, attributes := #[] }, { accessFlags := 25, nameIndex := 548, descriptorIndex := 12, attributes := #[] }, { accessFlags := 25, nameIndex := 549, descriptorIndex := 12, attributes := #[] }, { accessFlags := 25, nameIndex := 551, descriptorIndex := 12, attributes := #[] }, { accessFlags := 25, nameIndex := 552, descriptorIndex := 12, attributes := #[] }, { accessFlags := 25, nameIndex := 554, descriptorIndex := 12, attributes := #[] }, { accessFlags := 25, nameIndex := 556, descriptorIndex := 12, attributes := #[] }, { accessFlags := 25, nameIndex := 557, descriptorIndex := 12, attributes := #[] }, { accessFlags := 25, nameIndex := 558, descriptorIndex := 12, attributes := #[] }, { accessFlags := 25, nameIndex := 559, descriptorIndex := 12, attributes := #[] }, { accessFlags := 25, nameIndex := 560, descriptorIndex := 12, attributes := #[] }, { accessFlags := 25, nameIndex := 562, descriptorIndex := 12, attributes := #[] }, { accessFlags := 25, nameIndex := 563, descriptorIndex := 12, attributes := #[] }, { accessFlags := 25, nameIndex := 564, descriptorIndex := 12, attributes := #[] }, { accessFlags := 25, nameIndex := 565, descriptorIndex := 12, attributes := #[] }, { accessFlags := 25, nameIndex := 566, descriptorIndex := 12, attributes := #[] }, { accessFlags := 25, nameIndex := 568, descriptorIndex := 12, attributes := #[] }, { accessFlags := 25, nameIndex := 570, descriptorIndex := 12, attributes := #[] }, { accessFlags := 25, nameIndex := 571, descriptorIndex := 12, attributes := #[] }, { accessFlags := 18, nameIndex := 11, descriptorIndex := 12, attributes := #[] }, { accessFlags := 18, nameIndex := 15, descriptorIndex := 12, attributes := #[] }, { accessFlags := 18, nameIndex := 18, descriptorIndex := 12, attributes := #[] }, { accessFlags := 18, nameIndex := 21, descriptorIndex := 12, attributes := #[] }, { accessFlags := 18, nameIndex := 24, descriptorIndex := 12, attributes := #[] }, { accessFlags := 18, nameIndex := 27, descriptorIndex := 12, attributes := #[] }, { accessFlags := 18, nameIndex := 30, descriptorIndex := 12, attributes := #[] }, { accessFlags := 18, nameIndex := 33, descriptorIndex := 12, attributes := #[] }, { accessFlags := 18, nameIndex := 36, descriptorIndex := 12, attributes := #[] }, { accessFlags := 18, nameIndex := 39, descriptorIndex := 12, attributes := #[] }, { accessFlags := 18, nameIndex := 42, descriptorIndex := 12, attributes := #[] }, { accessFlags := 18, nameIndex := 45, descriptorIndex := 12, attributes := #[] }, { accessFlags := 18, nameIndex := 48, descriptorIndex := 12, attributes := #[] }, { accessFlags := 18, nameIndex := 51, descriptorIndex := 12, attributes := #[] }, { accessFlags := 18, nameIndex := 54, descriptorIndex := 12, attributes := #[] }, { accessFlags := 18, nameIndex := 57, descriptorIndex := 12, attributes := #[] }, { accessFlags := 18, nameIndex := 60, descriptorIndex := 12, attributes := #[] }, { accessFlags := 18, nameIndex := 63, descriptorIndex := 12, attributes := #[] }, { accessFlags := 18, nameIndex := 66, descriptorIndex := 12, attributes := #[] }, { accessFlags := 18, nameIndex := 69, descriptorIndex := 12, attributes := #[] }, { accessFlags := 18, nameIndex := 72, descriptorIndex := 12, attributes := #[] }, { accessFlags := 2, nameIndex := 181, descriptorIndex := 12, attributes := #[] }, { accessFlags := 18, nameIndex := 75, descriptorIndex := 76, attributes := #[] }, { accessFlags := 2, nameIndex := 188, descriptorIndex := 12, attributes := #[] }, { accessFlags := 18, nameIndex := 79, descriptorIndex := 80, attributes := #[] }, { accessFlags := 18, nameIndex := 83, descriptorIndex := 80, attributes := #[] }, { accessFlags := 2, nameIndex := 211, descriptorIndex := 12, attributes := #[] }, { accessFlags := 2, nameIndex := 223, descriptorIndex := 12, attributes := #[] }, { accessFlags := 2, nameIndex := 226, descriptorIndex := 12, attributes := #[] }, { accessFlags := 2, nameIndex := 229, descriptorIndex := 12, attributes := #[] }, { accessFlags := 2, nameIndex := 235, descriptorIndex := 12, attributes := #[] }, { accessFlags := 18, nameIndex := 86, descriptorIndex := 80, attributes := #[] }, { accessFlags := 18, nameIndex := 89, descriptorIndex := 90, attributes := #[] }, { accessFlags := 18, nameIndex := 93, descriptorIndex := 80, attributes := #[] }, { accessFlags := 2, nameIndex := 232, descriptorIndex := 12, attributes := #[] }, { accessFlags := 18, nameIndex := 96, descriptorIndex := 76, attributes := #[] }, { accessFlags := 2, nameIndex := 238, descriptorIndex := 12, attributes := #[] }, { accessFlags := 18, nameIndex := 99, descriptorIndex := 76, attributes := #[] }, { accessFlags := 2, nameIndex := 315, descriptorIndex := 12, attributes := #[] }, { accessFlags := 18, nameIndex := 102, descriptorIndex := 90, attributes := #[] }, { accessFlags := 18, nameIndex := 105, descriptorIndex := 80, attributes := #[] }, { accessFlags := 18, nameIndex := 108, descriptorIndex := 80, attributes := #[] }, { accessFlags := 2, nameIndex := 312, descriptorIndex := 12, attributes := #[] }, { accessFlags := 2, nameIndex := 336, descriptorIndex := 12, attributes := #[] }, { accessFlags := 18, nameIndex := 111, descriptorIndex := 80, attributes := #[] }, { accessFlags := 18, nameIndex := 114, descriptorIndex := 115, attributes := #[] }, { accessFlags := 18, nameIndex := 118, descriptorIndex := 80, attributes := #[] }, { accessFlags := 18, nameIndex := 121, descriptorIndex := 80, attributes := #[] }, { accessFlags := 18, nameIndex := 124, descriptorIndex := 80, attributes := #[] }, { accessFlags := 18, nameIndex := 127, descriptorIndex := 80, attributes := #[] }, { accessFlags := 18, nameIndex := 130, descriptorIndex := 80, attributes := #[] }, { accessFlags := 18, nameIndex := 133, descriptorIndex := 80, attributes := #[] }, { accessFlags := 18, nameIndex := 136, descriptorIndex := 80, attributes := #[] }, { accessFlags := 18, nameIndex := 139, descriptorIndex := 76, attributes := #[] }, { accessFlags := 2, nameIndex := 318, descriptorIndex := 12, attributes := #[] }, { accessFlags := 2, nameIndex := 346, descriptorIndex := 12, attributes := #[] }, { accessFlags := 2, nameIndex := 349, descriptorIndex := 12, attributes := #[] }, { accessFlags := 2, nameIndex := 352, descriptorIndex := 12, attributes := #[] }, { accessFlags := 2, nameIndex := 327, descriptorIndex := 12, attributes := #[] }, { accessFlags := 2, nameIndex := 330, descriptorIndex := 12, attributes := #[] }, { accessFlags := 2, nameIndex := 333, descriptorIndex := 12, attributes := #[] }, { accessFlags := 2, nameIndex := 321, descriptorIndex := 12, attributes := #[] }, { accessFlags := 2, nameIndex := 241, descriptorIndex := 12, attributes := #[] }, { accessFlags := 2, nameIndex := 244, descriptorIndex := 12, attributes := #[] }, { accessFlags := 2, nameIndex := 214, descriptorIndex := 12, attributes := #[] }, { accessFlags := 2, nameIndex := 201, descriptorIndex := 202, attributes := #[] }, { accessFlags := 2, nameIndex := 205, descriptorIndex := 202, attributes := #[] }, { accessFlags := 18, nameIndex := 142, descriptorIndex := 76, attributes := #[] }, { accessFlags := 2, nameIndex := 276, descriptorIndex := 12, attributes := #[] }, { accessFlags := 2, nameIndex := 423, descriptorIndex := 202, attributes := #[] }, { accessFlags := 2, nameIndex := 426, descriptorIndex := 427, attributes := #[] }, { accessFlags := 2, nameIndex := 402, descriptorIndex := 12, attributes := #[] }, { accessFlags := 18, nameIndex := 145, descriptorIndex := 80, attributes := #[] }, { accessFlags := 18, nameIndex := 148, descriptorIndex := 80, attributes := #[] }, { accessFlags := 18, nameIndex := 151, descriptorIndex := 90, attributes := #[] }, { accessFlags := 2, nameIndex := 452, descriptorIndex := 12, attributes := #[] }, { accessFlags := 2, nameIndex := 467, descriptorIndex := 12, attributes := #[] }, { accessFlags := 2, nameIndex := 512, descriptorIndex := 12, attributes := #[] }, { accessFlags := 2, nameIndex := 464, descriptorIndex := 202, attributes := #[] }, { accessFlags := 2, nameIndex := 515, descriptorIndex := 202, attributes := #[] }, { accessFlags := 18, nameIndex := 154, descriptorIndex := 90, attributes := #[] }, { accessFlags := 18, nameIndex := 157, descriptorIndex := 80, attributes := #[] }, { accessFlags := 2, nameIndex := 324, descriptorIndex := 12, attributes := #[] }, { accessFlags := 18, nameIndex := 160, descriptorIndex := 80, attributes := #[] }, { accessFlags := 18, nameIndex := 163, descriptorIndex := 80, attributes := #[] }, { accessFlags := 18, nameIndex := 166, descriptorIndex := 80, attributes := #[] }, { accessFlags := 18, nameIndex := 169, descriptorIndex := 80, attributes := #[] }, { accessFlags := 18, nameIndex := 172, descriptorIndex := 115, attributes := #[] }, { accessFlags := 18, nameIndex := 175, descriptorIndex := 90, attributes := #[] }, { accessFlags := 18, nameIndex := 178, descriptorIndex := 80, attributes := #[] }])
  fields := #[{ name := "STATUS_NONE", type := .int, accessFlags := 25, slot := 0, constantValue := 0 }, { name := "STATUS_OK", type := .int, accessFlags := 25, slot := 1, constantValue := 0 }, { name := "STATUS_ERROR", type := .int, accessFlags := 25, slot := 2, constantValue := 0 }, { name := "SOURCE_CAP", type := .int, accessFlags := 25, slot := 3, constantValue := 0 }, { name := "MAX_SYMBOLS", type := .int, accessFlags := 25, slot := 4, constantValue := 0 }, { name := "MAX_NAME", type := .int, accessFlags := 25, slot := 5, constantValue := 0 }, { name := "MAX_MACROS", type := .int, accessFlags := 25, slot := 6, constantValue := 0 }, { name := "MAX_ARGS", type := .int, accessFlags := 25, slot := 7, constantValue := 0 }, { name := "MAX_DEPTH", type := .int, accessFlags := 25, slot := 8, constantValue := 0 }, { name := "MAX_READS", type := .int, accessFlags := 25, slot := 9, constantValue := 0 }, { name := "MAX_SUBST_LINE", type := .int, accessFlags := 25, slot := 10, constantValue := 0 }, { name := "MAX_REPT", type := .int, accessFlags := 25, slot := 11, constantValue := 0 }, { name := "OP_NOP", type := .int, accessFlags := 25, slot := 12, constantValue := 0 }, { name := "OP_HLT", type := .int, accessFlags := 25, slot := 13, constantValue := 0 }, { name := "OP_INC", type := .int, accessFlags := 25, slot := 14, constantValue := 0 }, { name := "OP_DEC", type := .int, accessFlags := 25, slot := 15, constantValue := 0 }, { name := "CODE_LDA", type := .int, accessFlags := 25, slot := 16, constantValue := 0 }, { name := "CODE_STA", type := .int, accessFlags := 25, slot := 17, constantValue := 0 }, { name := "CODE_ADD", type := .int, accessFlags := 25, slot := 18, constantValue := 0 }, { name := "CODE_SUB", type := .int, accessFlags := 25, slot := 19, constantValue := 0 }, { name := "CODE_JMP", type := .int, accessFlags := 25, slot := 20, constantValue := 0 }, { name := "CODE_JZ", type := .int, accessFlags := 25, slot := 21, constantValue := 0 }, { name := "SHORT_BASE", type := .int, accessFlags := 25, slot := 22, constantValue := 0 }, { name := "LONG_BASE", type := .int, accessFlags := 25, slot := 23, constantValue := 0 }, { name := "T_IDENT", type := .int, accessFlags := 18, slot := 0, constantValue := 0 }, { name := "T_NUM", type := .int, accessFlags := 18, slot := 1, constantValue := 0 }, { name := "B_IF", type := .int, accessFlags := 18, slot := 2, constantValue := 0 }, { name := "B_REPT", type := .int, accessFlags := 18, slot := 3, constantValue := 0 }, { name := "B_CALL", type := .int, accessFlags := 18, slot := 4, constantValue := 0 }, { name := "M_NORMAL", type := .int, accessFlags := 18, slot := 5, constantValue := 0 }, { name := "M_DEFINING", type := .int, accessFlags := 18, slot := 6, constantValue := 0 }, { name := "M_SKIPPING", type := .int, accessFlags := 18, slot := 7, constantValue := 0 }, { name := "K_FALSE", type := .int, accessFlags := 18, slot := 8, constantValue := 0 }, { name := "K_ELSEPART", type := .int, accessFlags := 18, slot := 9, constantValue := 0 }, { name := "K_REPT0", type := .int, accessFlags := 18, slot := 10, constantValue := 0 }, { name := "KW_DB", type := .int, accessFlags := 18, slot := 11, constantValue := 0 }, { name := "KW_EQU", type := .int, accessFlags := 18, slot := 12, constantValue := 0 }, { name := "KW_MACRO", type := .int, accessFlags := 18, slot := 13, constantValue := 0 }, { name := "KW_ENDM", type := .int, accessFlags := 18, slot := 14, constantValue := 0 }, { name := "KW_IF", type := .int, accessFlags := 18, slot := 15, constantValue := 0 }, { name := "KW_ELSE", type := .int, accessFlags := 18, slot := 16, constantValue := 0 }, { name := "KW_ENDIF", type := .int, accessFlags := 18, slot := 17, constantValue := 0 }, { name := "KW_REPT", type := .int, accessFlags := 18, slot := 18, constantValue := 0 }, { name := "KW_ENDR", type := .int, accessFlags := 18, slot := 19, constantValue := 0 }, { name := "ARG_SLOT", type := .int, accessFlags := 18, slot := 20, constantValue := 0 }, { name := "cap", type := .int, accessFlags := 2, slot := 21, constantValue := 0 }, { name := "src", type := (.array .char), accessFlags := 18, slot := 22, constantValue := 0 }, { name := "srcLen", type := .int, accessFlags := 2, slot := 23, constantValue := 0 }, { name := "lineStart", type := (.array .int), accessFlags := 18, slot := 24, constantValue := 0 }, { name := "lineEnd", type := (.array .int), accessFlags := 18, slot := 25, constantValue := 0 }, { name := "nLines", type := .int, accessFlags := 2, slot := 26, constantValue := 0 }, { name := "status", type := .int, accessFlags := 2, slot := 27, constantValue := 0 }, { name := "errLine", type := .int, accessFlags := 2, slot := 28, constantValue := 0 }, { name := "imgLen", type := .int, accessFlags := 2, slot := 29, constantValue := 0 }, { name := "expCount", type := .int, accessFlags := 2, slot := 30, constantValue := 0 }, { name := "img", type := (.array .int), accessFlags := 18, slot := 31, constantValue := 0 }, { name := "symCode", type := (.array .long), accessFlags := 18, slot := 32, constantValue := 0 }, { name := "symVal", type := (.array .int), accessFlags := 18, slot := 33, constantValue := 0 }, { name := "symN", type := .int, accessFlags := 2, slot := 34, constantValue := 0 }, { name := "lst", type := (.array .char), accessFlags := 18, slot := 35, constantValue := 0 }, { name := "lstLen", type := .int, accessFlags := 2, slot := 36, constantValue := 0 }, { name := "dig", type := (.array .char), accessFlags := 18, slot := 37, constantValue := 0 }, { name := "digFrom", type := .int, accessFlags := 2, slot := 38, constantValue := 0 }, { name := "macCode", type := (.array .long), accessFlags := 18, slot := 39, constantValue := 0 }, { name := "macStart", type := (.array .int), accessFlags := 18, slot := 40, constantValue := 0 }, { name := "macEnd", type := (.array .int), accessFlags := 18, slot := 41, constantValue := 0 }, { name := "macN", type := .int, accessFlags := 2, slot := 42, constantValue := 0 }, { name := "defMac", type := .int, accessFlags := 2, slot := 43, constantValue := 0 }, { name := "bType", type := (.array .int), accessFlags := 18, slot := 44, constantValue := 0 }, { name := "bElse", type := (.array .boolean), accessFlags := 18, slot := 45, constantValue := 0 }, { name := "bRemain", type := (.array .int), accessFlags := 18, slot := 46, constantValue := 0 }, { name := "bRetMac", type := (.array .int), accessFlags := 18, slot := 47, constantValue := 0 }, { name := "bRetLine", type := (.array .int), accessFlags := 18, slot := 48, constantValue := 0 }, { name := "bK", type := (.array .int), accessFlags := 18, slot := 49, constantValue := 0 }, { name := "bErr", type := (.array .int), accessFlags := 18, slot := 50, constantValue := 0 }, { name := "bArgN", type := (.array .int), accessFlags := 18, slot := 51, constantValue := 0 }, { name := "argLen", type := (.array .int), accessFlags := 18, slot := 52, constantValue := 0 }, { name := "argCh", type := (.array .char), accessFlags := 18, slot := 53, constantValue := 0 }, { name := "sp", type := .int, accessFlags := 2, slot := 54, constantValue := 0 }, { name := "curMac", type := .int, accessFlags := 2, slot := 55, constantValue := 0 }, { name := "curLine", type := .int, accessFlags := 2, slot := 56, constantValue := 0 }, { name := "curEnd", type := .int, accessFlags := 2, slot := 57, constantValue := 0 }, { name := "mode", type := .int, accessFlags := 2, slot := 58, constantValue := 0 }, { name := "skipKind", type := .int, accessFlags := 2, slot := 59, constantValue := 0 }, { name := "skipDepth", type := .int, accessFlags := 2, slot := 60, constantValue := 0 }, { name := "reads", type := .int, accessFlags := 2, slot := 61, constantValue := 0 }, { name := "loc", type := .int, accessFlags := 2, slot := 62, constantValue := 0 }, { name := "counter", type := .int, accessFlags := 2, slot := 63, constantValue := 0 }, { name := "hLine", type := .int, accessFlags := 2, slot := 64, constantValue := 0 }, { name := "err", type := .boolean, accessFlags := 2, slot := 65, constantValue := 0 }, { name := "done", type := .boolean, accessFlags := 2, slot := 66, constantValue := 0 }, { name := "ln", type := (.array .char), accessFlags := 18, slot := 67, constantValue := 0 }, { name := "lnLen", type := .int, accessFlags := 2, slot := 68, constantValue := 0 }, { name := "hasLabel", type := .boolean, accessFlags := 2, slot := 69, constantValue := 0 }, { name := "labelCode", type := .long, accessFlags := 2, slot := 70, constantValue := 0 }, { name := "restAt", type := .int, accessFlags := 2, slot := 71, constantValue := 0 }, { name := "tkType", type := (.array .int), accessFlags := 18, slot := 72, constantValue := 0 }, { name := "tkVal", type := (.array .int), accessFlags := 18, slot := 73, constantValue := 0 }, { name := "tkCode", type := (.array .long), accessFlags := 18, slot := 74, constantValue := 0 }, { name := "tkN", type := .int, accessFlags := 2, slot := 75, constantValue := 0 }, { name := "exConst", type := .int, accessFlags := 2, slot := 76, constantValue := 0 }, { name := "exUN", type := .int, accessFlags := 2, slot := 77, constantValue := 0 }, { name := "exUnknown", type := .boolean, accessFlags := 2, slot := 78, constantValue := 0 }, { name := "exDoom", type := .boolean, accessFlags := 2, slot := 79, constantValue := 0 }, { name := "exUCode", type := (.array .long), accessFlags := 18, slot := 80, constantValue := 0 }, { name := "exUCoef", type := (.array .int), accessFlags := 18, slot := 81, constantValue := 0 }, { name := "fixN", type := .int, accessFlags := 2, slot := 82, constantValue := 0 }, { name := "fixAddr", type := (.array .int), accessFlags := 18, slot := 83, constantValue := 0 }, { name := "fixErr", type := (.array .int), accessFlags := 18, slot := 84, constantValue := 0 }, { name := "fixConst", type := (.array .int), accessFlags := 18, slot := 85, constantValue := 0 }, { name := "fixUN", type := (.array .int), accessFlags := 18, slot := 86, constantValue := 0 }, { name := "fixDoom", type := (.array .boolean), accessFlags := 18, slot := 87, constantValue := 0 }, { name := "fixUCode", type := (.array .long), accessFlags := 18, slot := 88, constantValue := 0 }, { name := "fixUCoef", type := (.array .int), accessFlags := 18, slot := 89, constantValue := 0 }]
  methods := #[k2m0, k2m1, k2m2, k2m3, k2m4, k2m5, k2m6, k2m7, k2m8, k2m9, k2m10, k2m11, k2m12, k2m13, k2m14, k2m15, k2m16, k2m17, k2m18, k2m19, k2m20, k2m21, k2m22, k2m23, k2m24, k2m25, k2m26, k2m27, k2m28, k2m29, k2m30, k2m31, k2m32, k2m33, k2m34, k2m35, k2m36, k2m37, k2m38, k2m39, k2m40, k2m41, k2m42, k2m43, k2m44, k2m45, k2m46, k2m47, k2m48, k2m49, k2m50, k2m51, k2m52, k2m53, k2m54, k2m55, k2m56, k2m57, k2m58, k2m59, k2m60, k2m61, k2m62, k2m63, k2m64, k2m65, k2m66, k2m67, k2m68]
  instanceTypes := #[.int, .int, .int, .int, .int, .int, .int, .int, .int, .int, .int, .int, .int, .int, .int, .int, .int, .int, .int, .int, .int, .int, (.array .char), .int, (.array .int), (.array .int), .int, .int, .int, .int, .int, (.array .int), (.array .long), (.array .int), .int, (.array .char), .int, (.array .char), .int, (.array .long), (.array .int), (.array .int), .int, .int, (.array .int), (.array .boolean), (.array .int), (.array .int), (.array .int), (.array .int), (.array .int), (.array .int), (.array .int), (.array .char), .int, .int, .int, .int, .int, .int, .int, .int, .int, .int, .int, .boolean, .boolean, (.array .char), .int, .boolean, .long, .int, (.array .int), (.array .int), (.array .long), .int, .int, .int, .boolean, .boolean, (.array .long), (.array .int), .int, (.array .int), (.array .int), (.array .int), (.array .int), (.array .boolean), (.array .long), (.array .int)]
  staticTypes := #[.int, .int, .int, .int, .int, .int, .int, .int, .int, .int, .int, .int, .int, .int, .int, .int, .int, .int, .int, .int, .int, .int, .int, .int]
  resolved := Array.replicate 599 none
  statics := none }

def pool3 : Array CpInfo := pool [(1, u "java/lang/Cloneable"), (0, .class_ 1), (0, u "java/lang/Object"), (0, .class_ 3)] 3

/-- java/lang/Cloneable -/
def k3 : Class := { plain "java/lang/Cloneable" (some 0) with
  accessFlags := 1537
  interfaces := #[]
  cf := some (fileOf pool3 2 #[] #[] 1537 4 #[] #[])
  fields := #[]
  methods := #[]
  instanceTypes := #[]
  staticTypes := #[]
  resolved := Array.replicate 8 none
  statics := none }

def pool4 : Array CpInfo := pool [(1, u "java/io/Serializable"), (0, .class_ 1), (0, u "java/lang/Object"), (0, .class_ 3)] 3

/-- java/io/Serializable -/
def k4 : Class := { plain "java/io/Serializable" (some 0) with
  accessFlags := 1537
  interfaces := #[]
  cf := some (fileOf pool4 2 #[] #[] 1537 4 #[] #[])
  fields := #[]
  methods := #[]
  instanceTypes := #[]
  staticTypes := #[]
  resolved := Array.replicate 8 none
  statics := none }

/-- the primitive boolean -/
def k5 : Class := { plain "boolean" none with kind := .primitive 'Z', accessFlags := 0x411 }
/-- [Z -/
def k6 : Class := { plain "[Z" (some 0) with kind := .array 5 .boolean, interfaces := #[3, 4], accessFlags := 1041 }

/-- the primitive byte -/
def k7 : Class := { plain "byte" none with kind := .primitive 'B', accessFlags := 0x411 }
/-- [B -/
def k8 : Class := { plain "[B" (some 0) with kind := .array 7 .byte, interfaces := #[3, 4], accessFlags := 1041 }

/-- the primitive char -/
def k9 : Class := { plain "char" none with kind := .primitive 'C', accessFlags := 0x411 }
/-- [C -/
def k10 : Class := { plain "[C" (some 0) with kind := .array 9 .char, interfaces := #[3, 4], accessFlags := 1041 }

/-- the primitive int -/
def k11 : Class := { plain "int" none with kind := .primitive 'I', accessFlags := 0x411 }
/-- [I -/
def k12 : Class := { plain "[I" (some 0) with kind := .array 11 .int, interfaces := #[3, 4], accessFlags := 1041 }

/-- the primitive long -/
def k13 : Class := { plain "long" none with kind := .primitive 'J', accessFlags := 0x411 }
/-- [J -/
def k14 : Class := { plain "[J" (some 0) with kind := .array 13 .long, interfaces := #[3, 4], accessFlags := 1041 }

def heap : Heap := #[]
def classes : Array Class := #[k0, k1, k2, k3, k4, k5, k6, k7, k8, k9, k10, k11, k12, k13, k14]
def interned : List (Array UInt16 × Addr) := []
def slotsUsed : Nat := 0
def theMethod : MethodId := ⟨1, 3⟩
def args0 : Array Value := #[.int 20, .int 7, .int 300]
def aboutOver (below : List Frame) : State where
  vm := { classes := classes, interned := interned.toArray }
  heap := heap
  slotsUsed := slotsUsed
  threads := #[{ frames := .invoking theMethod args0 :: below }]
def below0 : List Frame := [.native { method := ⟨0, 0⟩, args := #[] }]
def about1 : State := aboutOver below0
def p0 : Program := .bare "" "" ""
def e0 : Env := launch0.env 0 0 0
theorem w_frames : about1.frames = Frame.invoking theMethod args0 :: below0 := rfl
set_option maxRecDepth 65536 in
theorem w_args : argsFit about1.vm theMethod args0 = true := by decide +kernel
set_option maxRecDepth 65536 in
theorem w_heap : heapFits about1 = true := by decide +kernel
set_option maxRecDepth 65536 in
theorem w_runnable : about1.curStatus? = some .runnable := by decide +kernel
set_option maxRecDepth 65536 in
theorem w_alone : about1.alone = true := by decide +kernel
set_option maxRecDepth 65536 in
theorem w_named : about1.methodNamed? x = some theMethod := by decide +kernel
set_option maxRecDepth 65536 in
theorem w_hears : about1.hears theMethod below0 = true := by decide +kernel
set_option maxRecDepth 65536 in
theorem w_ripe : about1.ripe theMethod args0 below0 = true := by decide +kernel
theorem w_running : about1.status = .running := rfl
set_option maxRecDepth 65536 in
theorem w_room : about1.hasRoom e0.platform room_1 = true :=
  launch0.hasRoom_least _ room_1 (by decide +kernel) (by decide +kernel) (by decide +kernel) (by decide +kernel) (by decide +kernel) (by decide +kernel)
theorem allAtoms_all (ts : List Jvm.Cond) (a : Array Jvm.Value) (st : Jvm.State) : (allAtoms ts).before a st = ts.all (fun c => c.before a st) := by
  induction ts with
  | nil => rfl
  | cons c t ih =>
    show (Jvm.Cond.and c (allAtoms t)).before a st = _
    rw [Jvm.Cond.before_and, ih, List.all_cons]
def words1 : List Jvm.Cond := Jvm.Cond.code x code maxLocals ret :: tables_1
/-- a 'code' word, met by the world's own term for the bytes: nothing is compared byte by byte -/
theorem code_word {y : MethodName} {bytes : ByteArray} {mx : Nat} {rt : Option FieldType} {a : Array Value} {s : State} {m : MethodId} {meth : Method} {c : Code} (h1 : s.methodNamed? y = some m) (h2 : s.vm.method? m = some meth) (h3 : meth.code = some c) (h4 : c.code = bytes)
    (h5 : (c.maxLocals == mx && c.exceptionTable.isEmpty && decide (c.maxStack ≤ mostOperands) && decide (meth.sig.returnType = rt) && !meth.locks && decide (parseMethodDescriptor y.desc = some meth.sig)) = true) : (Jvm.Cond.code y bytes mx rt).before a s = true := by
  simp only [Bool.and_eq_true, beq_iff_eq, Bool.not_eq_true', decide_eq_true_eq] at h5
  obtain ⟨⟨⟨⟨⟨g1, g2⟩, g3⟩, g4⟩, g5⟩, g6⟩ := h5
  simp [Cond.before, Cond.holds, Cond.value, h1, h2, h3, h4, g1, g2, g3, g4, g5, g6]
def isCode : Jvm.Cond → Bool
  | .code _ _ _ _ => true
  | _ => false
theorem all_split {L : List Jvm.Cond} {P : Jvm.Cond → Bool} (h1 : L.all (fun c => isCode c || P c) = true) (h2 : ∀ c ∈ L.filter isCode, P c = true) : L.all P = true := by
  refine List.all_eq_true.mpr fun c hc => ?_
  have h := List.all_eq_true.mp h1 c hc
  rcases Bool.eq_false_or_eq_true (isCode c) with hi | hi
  · exact h2 c (List.mem_filter.mpr ⟨hc, hi⟩)
  · simpa [hi] using h
set_option maxRecDepth 65536 in
theorem w_c0 : (Jvm.Cond.code x code maxLocals ret).before args0 about1 = true := code_word (m := ⟨1, 3⟩) (meth := k1m3) (c := k1c3) (by decide +kernel) rfl rfl rfl (by decide +kernel)
set_option maxRecDepth 65536 in
theorem w_c1 : (Jvm.Cond.code ({ cls := "MacroAssembler", name := "<init>", desc := "(I)V" } : Jvm.MethodName) prog_1_method_1_code (3 : Nat) (Option.none : Option Jvm.ClassFile.FieldType)).before args0 about1 = true := code_word (m := ⟨2, 0⟩) (meth := k2m0) (c := k2c0) (by decide +kernel) rfl rfl rfl (by decide +kernel)
set_option maxRecDepth 65536 in
theorem w_c2 : (Jvm.Cond.code ({ cls := "java/lang/Object", name := "<init>", desc := "()V" } : Jvm.MethodName) object_method_1_code (1 : Nat) (Option.none : Option Jvm.ClassFile.FieldType)).before args0 about1 = true := code_word (m := ⟨0, 0⟩) (meth := k0m0) (c := k0c0) (by decide +kernel) rfl rfl rfl (by decide +kernel)
set_option maxRecDepth 65536 in
theorem w_c3 : (Jvm.Cond.code ({ cls := "MacroAssembler", name := "feedLong", desc := "(J)I" } : Jvm.MethodName) prog_1_method_3_code (6 : Nat) (Option.some Jvm.ClassFile.FieldType.int)).before args0 about1 = true := code_word (m := ⟨2, 1⟩) (meth := k2m1) (c := k2c1) (by decide +kernel) rfl rfl rfl (by decide +kernel)
set_option maxRecDepth 65536 in
theorem w_c4 : (Jvm.Cond.code ({ cls := "MacroAssembler", name := "byteOf", desc := "(JI)I" } : Jvm.MethodName) prog_1_method_19_code (4 : Nat) (Option.some Jvm.ClassFile.FieldType.int)).before args0 about1 = true := code_word (m := ⟨2, 11⟩) (meth := k2m11) (c := k2c11) (by decide +kernel) rfl rfl rfl (by decide +kernel)
set_option maxRecDepth 65536 in
theorem w_c5 : (Jvm.Cond.code ({ cls := "MacroAssembler", name := "validChar", desc := "(I)Z" } : Jvm.MethodName) prog_1_method_18_code (2 : Nat) (Option.some Jvm.ClassFile.FieldType.boolean)).before args0 about1 = true := code_word (m := ⟨2, 10⟩) (meth := k2m10) (c := k2c10) (by decide +kernel) rfl rfl rfl (by decide +kernel)
set_option maxRecDepth 65536 in
theorem w_c6 : (Jvm.Cond.code ({ cls := "MacroAssembler", name := "resetResult", desc := "()V" } : Jvm.MethodName) prog_1_method_20_code (1 : Nat) (Option.none : Option Jvm.ClassFile.FieldType)).before args0 about1 = true := code_word (m := ⟨2, 12⟩) (meth := k2m12) (c := k2c12) (by decide +kernel) rfl rfl rfl (by decide +kernel)
set_option maxRecDepth 65536 in
theorem w_c7 : (Jvm.Cond.code ({ cls := "MacroAssemblerL3", name := "callLine", desc := "(I)J" } : Jvm.MethodName) method_3_code (3 : Nat) (Option.some Jvm.ClassFile.FieldType.long)).before args0 about1 = true := code_word (m := ⟨1, 2⟩) (meth := k1m2) (c := k1c2) (by decide +kernel) rfl rfl rfl (by decide +kernel)
set_option maxRecDepth 65536 in
theorem w_c8 : (Jvm.Cond.code ({ cls := "MacroAssembler", name := "assemble", desc := "()I" } : Jvm.MethodName) prog_1_method_5_code (2 : Nat) (Option.some Jvm.ClassFile.FieldType.int)).before args0 about1 = true := code_word (m := ⟨2, 2⟩) (meth := k2m2) (c := k2c2) (by decide +kernel) rfl rfl rfl (by decide +kernel)
set_option maxRecDepth 65536 in
theorem w_c9 : (Jvm.Cond.code ({ cls := "MacroAssembler", name := "startRun", desc := "()V" } : Jvm.MethodName) prog_1_method_38_code (1 : Nat) (Option.none : Option Jvm.ClassFile.FieldType)).before args0 about1 = true := code_word (m := ⟨2, 29⟩) (meth := k2m29) (c := k2c29) (by decide +kernel) rfl rfl rfl (by decide +kernel)
set_option maxRecDepth 65536 in
theorem w_c10 : (Jvm.Cond.code ({ cls := "MacroAssembler", name := "splitLines", desc := "()V" } : Jvm.MethodName) prog_1_method_39_code (3 : Nat) (Option.none : Option Jvm.ClassFile.FieldType)).before args0 about1 = true := code_word (m := ⟨2, 30⟩) (meth := k2m30) (c := k2c30) (by decide +kernel) rfl rfl rfl (by decide +kernel)
set_option maxRecDepth 65536 in
theorem w_c11 : (Jvm.Cond.code ({ cls := "MacroAssembler", name := "setInput", desc := "(II)V" } : Jvm.MethodName) prog_1_method_40_code (3 : Nat) (Option.none : Option Jvm.ClassFile.FieldType)).before args0 about1 = true := code_word (m := ⟨2, 31⟩) (meth := k2m31) (c := k2c31) (by decide +kernel) rfl rfl rfl (by decide +kernel)
set_option maxRecDepth 65536 in
theorem w_c12 : (Jvm.Cond.code ({ cls := "MacroAssembler", name := "step", desc := "()V" } : Jvm.MethodName) prog_1_method_41_code (2 : Nat) (Option.none : Option Jvm.ClassFile.FieldType)).before args0 about1 = true := code_word (m := ⟨2, 32⟩) (meth := k2m32) (c := k2c32) (by decide +kernel) rfl rfl rfl (by decide +kernel)
set_option maxRecDepth 65536 in
theorem w_c13 : (Jvm.Cond.code ({ cls := "MacroAssembler", name := "copyLine", desc := "(I)V" } : Jvm.MethodName) prog_1_method_45_code (3 : Nat) (Option.none : Option Jvm.ClassFile.FieldType)).before args0 about1 = true := code_word (m := ⟨2, 36⟩) (meth := k2m36) (c := k2c36) (by decide +kernel) rfl rfl rfl (by decide +kernel)
set_option maxRecDepth 65536 in
theorem w_c14 : (Jvm.Cond.code ({ cls := "MacroAssembler", name := "normalLine", desc := "()V" } : Jvm.MethodName) prog_1_method_53_code (10 : Nat) (Option.none : Option Jvm.ClassFile.FieldType)).before args0 about1 = true := code_word (m := ⟨2, 42⟩) (meth := k2m42) (c := k2c42) (by decide +kernel) rfl rfl rfl (by decide +kernel)
set_option maxRecDepth 65536 in
theorem w_c15 : (Jvm.Cond.code ({ cls := "MacroAssembler", name := "findLabel", desc := "()V" } : Jvm.MethodName) prog_1_method_54_code (4 : Nat) (Option.none : Option Jvm.ClassFile.FieldType)).before args0 about1 = true := code_word (m := ⟨2, 43⟩) (meth := k2m43) (c := k2c43) (by decide +kernel) rfl rfl rfl (by decide +kernel)
set_option maxRecDepth 65536 in
theorem w_c16 : (Jvm.Cond.code ({ cls := "MacroAssembler", name := "skipSpaces", desc := "(I)I" } : Jvm.MethodName) prog_1_method_25_code (4 : Nat) (Option.some Jvm.ClassFile.FieldType.int)).before args0 about1 = true := code_word (m := ⟨2, 16⟩) (meth := k2m16) (c := k2c16) (by decide +kernel) rfl rfl rfl (by decide +kernel)
set_option maxRecDepth 65536 in
theorem w_c17 : (Jvm.Cond.code ({ cls := "MacroAssembler", name := "identStart", desc := "(I)Z" } : Jvm.MethodName) prog_1_method_23_code (2 : Nat) (Option.some Jvm.ClassFile.FieldType.boolean)).before args0 about1 = true := code_word (m := ⟨2, 14⟩) (meth := k2m14) (c := k2c14) (by decide +kernel) rfl rfl rfl (by decide +kernel)
set_option maxRecDepth 65536 in
theorem w_c18 : (Jvm.Cond.code ({ cls := "MacroAssembler", name := "identEnd", desc := "(I)I" } : Jvm.MethodName) prog_1_method_26_code (4 : Nat) (Option.some Jvm.ClassFile.FieldType.int)).before args0 about1 = true := code_word (m := ⟨2, 17⟩) (meth := k2m17) (c := k2c17) (by decide +kernel) rfl rfl rfl (by decide +kernel)
set_option maxRecDepth 65536 in
theorem w_c19 : (Jvm.Cond.code ({ cls := "MacroAssembler", name := "identChar", desc := "(I)Z" } : Jvm.MethodName) prog_1_method_24_code (2 : Nat) (Option.some Jvm.ClassFile.FieldType.boolean)).before args0 about1 = true := code_word (m := ⟨2, 15⟩) (meth := k2m15) (c := k2c15) (by decide +kernel) rfl rfl rfl (by decide +kernel)
set_option maxRecDepth 65536 in
theorem w_c20 : (Jvm.Cond.code ({ cls := "MacroAssembler", name := "isDigit", desc := "(I)Z" } : Jvm.MethodName) prog_1_method_22_code (2 : Nat) (Option.some Jvm.ClassFile.FieldType.boolean)).before args0 about1 = true := code_word (m := ⟨2, 13⟩) (meth := k2m13) (c := k2c13) (by decide +kernel) rfl rfl rfl (by decide +kernel)
set_option maxRecDepth 65536 in
theorem w_c21 : (Jvm.Cond.code ({ cls := "MacroAssembler", name := "pack", desc := "(II)J" } : Jvm.MethodName) prog_1_method_27_code (6 : Nat) (Option.some Jvm.ClassFile.FieldType.long)).before args0 about1 = true := code_word (m := ⟨2, 18⟩) (meth := k2m18) (c := k2c18) (by decide +kernel) rfl rfl rfl (by decide +kernel)
set_option maxRecDepth 65536 in
theorem w_c22 : (Jvm.Cond.code ({ cls := "MacroAssembler", name := "wordAt", desc := "(I)J" } : Jvm.MethodName) prog_1_method_28_code (3 : Nat) (Option.some Jvm.ClassFile.FieldType.long)).before args0 about1 = true := code_word (m := ⟨2, 19⟩) (meth := k2m19) (c := k2c19) (by decide +kernel) rfl rfl rfl (by decide +kernel)
set_option maxRecDepth 65536 in
theorem w_c23 : (Jvm.Cond.code ({ cls := "MacroAssembler", name := "kwCode", desc := "(I)J" } : Jvm.MethodName) prog_1_method_33_code (2 : Nat) (Option.some Jvm.ClassFile.FieldType.long)).before args0 about1 = true := code_word (m := ⟨2, 24⟩) (meth := k2m24) (c := k2c24) (by decide +kernel) rfl rfl rfl (by decide +kernel)
set_option maxRecDepth 65536 in
theorem w_c24 : (Jvm.Cond.code ({ cls := "MacroAssembler", name := "word", desc := "(IIIII)J" } : Jvm.MethodName) prog_1_method_32_code (8 : Nat) (Option.some Jvm.ClassFile.FieldType.long)).before args0 about1 = true := code_word (m := ⟨2, 23⟩) (meth := k2m23) (c := k2c23) (by decide +kernel) rfl rfl rfl (by decide +kernel)
set_option maxRecDepth 65536 in
theorem w_c25 : (Jvm.Cond.code ({ cls := "MacroAssembler", name := "formMacro", desc := "()V" } : Jvm.MethodName) prog_1_method_60_code (3 : Nat) (Option.none : Option Jvm.ClassFile.FieldType)).before args0 about1 = true := code_word (m := ⟨2, 48⟩) (meth := k2m48) (c := k2c48) (by decide +kernel) rfl rfl rfl (by decide +kernel)
set_option maxRecDepth 65536 in
theorem w_c26 : (Jvm.Cond.code ({ cls := "MacroAssembler", name := "tokenize", desc := "(I)V" } : Jvm.MethodName) prog_1_method_75_code (8 : Nat) (Option.none : Option Jvm.ClassFile.FieldType)).before args0 about1 = true := code_word (m := ⟨2, 56⟩) (meth := k2m56) (c := k2c56) (by decide +kernel) rfl rfl rfl (by decide +kernel)
set_option maxRecDepth 65536 in
theorem w_c27 : (Jvm.Cond.code ({ cls := "MacroAssembler", name := "addTok", desc := "(IIJ)V" } : Jvm.MethodName) prog_1_method_77_code (5 : Nat) (Option.none : Option Jvm.ClassFile.FieldType)).before args0 about1 = true := code_word (m := ⟨2, 58⟩) (meth := k2m58) (c := k2c58) (by decide +kernel) rfl rfl rfl (by decide +kernel)
set_option maxRecDepth 65536 in
theorem w_c28 : (Jvm.Cond.code ({ cls := "MacroAssembler", name := "kwIndex", desc := "(J)I" } : Jvm.MethodName) prog_1_method_34_code (4 : Nat) (Option.some Jvm.ClassFile.FieldType.int)).before args0 about1 = true := code_word (m := ⟨2, 25⟩) (meth := k2m25) (c := k2c25) (by decide +kernel) rfl rfl rfl (by decide +kernel)
set_option maxRecDepth 65536 in
theorem w_c29 : (Jvm.Cond.code ({ cls := "MacroAssembler", name := "macroFind", desc := "(J)I" } : Jvm.MethodName) prog_1_method_36_code (4 : Nat) (Option.some Jvm.ClassFile.FieldType.int)).before args0 about1 = true := code_word (m := ⟨2, 27⟩) (meth := k2m27) (c := k2c27) (by decide +kernel) rfl rfl rfl (by decide +kernel)
set_option maxRecDepth 65536 in
theorem w_c30 : (Jvm.Cond.code ({ cls := "MacroAssembler", name := "defLine", desc := "(I)V" } : Jvm.MethodName) prog_1_method_50_code (4 : Nat) (Option.none : Option Jvm.ClassFile.FieldType)).before args0 about1 = true := code_word (m := ⟨2, 41⟩) (meth := k2m41) (c := k2c41) (by decide +kernel) rfl rfl rfl (by decide +kernel)
set_option maxRecDepth 65536 in
theorem w_c31 : (Jvm.Cond.code ({ cls := "MacroAssembler", name := "firstWord", desc := "(I)J" } : Jvm.MethodName) prog_1_method_29_code (3 : Nat) (Option.some Jvm.ClassFile.FieldType.long)).before args0 about1 = true := code_word (m := ⟨2, 20⟩) (meth := k2m20) (c := k2c20) (by decide +kernel) rfl rfl rfl (by decide +kernel)
set_option maxRecDepth 65536 in
theorem w_c32 : (Jvm.Cond.code ({ cls := "MacroAssembler", name := "callMacro", desc := "(II)V" } : Jvm.MethodName) prog_1_method_71_code (6 : Nat) (Option.none : Option Jvm.ClassFile.FieldType)).before args0 about1 = true := code_word (m := ⟨2, 52⟩) (meth := k2m52) (c := k2c52) (by decide +kernel) rfl rfl rfl (by decide +kernel)
set_option maxRecDepth 65536 in
theorem w_c33 : (Jvm.Cond.code ({ cls := "MacroAssembler", name := "defineLabel", desc := "()V" } : Jvm.MethodName) prog_1_method_55_code (1 : Nat) (Option.none : Option Jvm.ClassFile.FieldType)).before args0 about1 = true := code_word (m := ⟨2, 44⟩) (meth := k2m44) (c := k2c44) (by decide +kernel) rfl rfl rfl (by decide +kernel)
set_option maxRecDepth 65536 in
theorem w_c34 : (Jvm.Cond.code ({ cls := "MacroAssembler", name := "countArgs", desc := "(II)I" } : Jvm.MethodName) prog_1_method_72_code (6 : Nat) (Option.some Jvm.ClassFile.FieldType.int)).before args0 about1 = true := code_word (m := ⟨2, 53⟩) (meth := k2m53) (c := k2c53) (by decide +kernel) rfl rfl rfl (by decide +kernel)
set_option maxRecDepth 65536 in
theorem w_c35 : (Jvm.Cond.code ({ cls := "MacroAssembler", name := "push", desc := "(I)Z" } : Jvm.MethodName) prog_1_method_65_code (2 : Nat) (Option.some Jvm.ClassFile.FieldType.boolean)).before args0 about1 = true := code_word (m := ⟨2, 51⟩) (meth := k2m51) (c := k2c51) (by decide +kernel) rfl rfl rfl (by decide +kernel)
set_option maxRecDepth 65536 in
theorem w_c36 : (Jvm.Cond.code ({ cls := "MacroAssembler", name := "splitArgs", desc := "(III)V" } : Jvm.MethodName) prog_1_method_73_code (7 : Nat) (Option.none : Option Jvm.ClassFile.FieldType)).before args0 about1 = true := code_word (m := ⟨2, 54⟩) (meth := k2m54) (c := k2c54) (by decide +kernel) rfl rfl rfl (by decide +kernel)
set_option maxRecDepth 65536 in
theorem w_c37 : (Jvm.Cond.code ({ cls := "MacroAssembler", name := "storeArg", desc := "(III)V" } : Jvm.MethodName) prog_1_method_74_code (8 : Nat) (Option.none : Option Jvm.ClassFile.FieldType)).before args0 about1 = true := code_word (m := ⟨2, 55⟩) (meth := k2m55) (c := k2c55) (by decide +kernel) rfl rfl rfl (by decide +kernel)
set_option maxRecDepth 65536 in
theorem w_c38 : (Jvm.Cond.code ({ cls := "MacroAssembler", name := "outerLine", desc := "()I" } : Jvm.MethodName) prog_1_method_43_code (2 : Nat) (Option.some Jvm.ClassFile.FieldType.int)).before args0 about1 = true := code_word (m := ⟨2, 34⟩) (meth := k2m34) (c := k2c34) (by decide +kernel) rfl rfl rfl (by decide +kernel)
set_option maxRecDepth 65536 in
theorem w_c39 : (Jvm.Cond.code ({ cls := "MacroAssembler", name := "substitute", desc := "(I)V" } : Jvm.MethodName) prog_1_method_46_code (8 : Nat) (Option.none : Option Jvm.ClassFile.FieldType)).before args0 about1 = true := code_word (m := ⟨2, 37⟩) (meth := k2m37) (c := k2c37) (by decide +kernel) rfl rfl rfl (by decide +kernel)
set_option maxRecDepth 65536 in
theorem w_c40 : (Jvm.Cond.code ({ cls := "MacroAssembler", name := "topCall", desc := "()I" } : Jvm.MethodName) prog_1_method_44_code (2 : Nat) (Option.some Jvm.ClassFile.FieldType.int)).before args0 about1 = true := code_word (m := ⟨2, 35⟩) (meth := k2m35) (c := k2c35) (by decide +kernel) rfl rfl rfl (by decide +kernel)
set_option maxRecDepth 65536 in
theorem w_c41 : (Jvm.Cond.code ({ cls := "MacroAssembler", name := "putLocal", desc := "(III)I" } : Jvm.MethodName) prog_1_method_49_code (6 : Nat) (Option.some Jvm.ClassFile.FieldType.int)).before args0 about1 = true := code_word (m := ⟨2, 40⟩) (meth := k2m40) (c := k2c40) (by decide +kernel) rfl rfl rfl (by decide +kernel)
set_option maxRecDepth 65536 in
theorem w_c42 : (Jvm.Cond.code ({ cls := "MacroAssembler", name := "put", desc := "(I)V" } : Jvm.MethodName) prog_1_method_47_code (2 : Nat) (Option.none : Option Jvm.ClassFile.FieldType)).before args0 about1 = true := code_word (m := ⟨2, 38⟩) (meth := k2m38) (c := k2c38) (by decide +kernel) rfl rfl rfl (by decide +kernel)
set_option maxRecDepth 65536 in
theorem w_c43 : (Jvm.Cond.code ({ cls := "MacroAssembler", name := "toDigits", desc := "(I)V" } : Jvm.MethodName) prog_1_method_37_code (5 : Nat) (Option.none : Option Jvm.ClassFile.FieldType)).before args0 about1 = true := code_word (m := ⟨2, 28⟩) (meth := k2m28) (c := k2c28) (by decide +kernel) rfl rfl rfl (by decide +kernel)
set_option maxRecDepth 65536 in
theorem w_c44 : (Jvm.Cond.code ({ cls := "MacroAssembler", name := "putArg", desc := "(II)V" } : Jvm.MethodName) prog_1_method_48_code (5 : Nat) (Option.none : Option Jvm.ClassFile.FieldType)).before args0 about1 = true := code_word (m := ⟨2, 39⟩) (meth := k2m39) (c := k2c39) (by decide +kernel) rfl rfl rfl (by decide +kernel)
set_option maxRecDepth 65536 in
theorem w_c45 : (Jvm.Cond.code ({ cls := "MacroAssembler", name := "statement", desc := "(I)V" } : Jvm.MethodName) prog_1_method_58_code (2 : Nat) (Option.none : Option Jvm.ClassFile.FieldType)).before args0 about1 = true := code_word (m := ⟨2, 47⟩) (meth := k2m47) (c := k2c47) (by decide +kernel) rfl rfl rfl (by decide +kernel)
set_option maxRecDepth 65536 in
theorem w_c46 : (Jvm.Cond.code ({ cls := "MacroAssembler", name := "lexNumber", desc := "(I)I" } : Jvm.MethodName) prog_1_method_76_code (5 : Nat) (Option.some Jvm.ClassFile.FieldType.int)).before args0 about1 = true := code_word (m := ⟨2, 57⟩) (meth := k2m57) (c := k2c57) (by decide +kernel) rfl rfl rfl (by decide +kernel)
set_option maxRecDepth 65536 in
theorem w_c47 : (Jvm.Cond.code ({ cls := "MacroAssembler", name := "formOperand", desc := "(I)V" } : Jvm.MethodName) prog_1_method_62_code (5 : Nat) (Option.none : Option Jvm.ClassFile.FieldType)).before args0 about1 = true := code_word (m := ⟨2, 50⟩) (meth := k2m50) (c := k2c50) (by decide +kernel) rfl rfl rfl (by decide +kernel)
set_option maxRecDepth 65536 in
theorem w_c48 : (Jvm.Cond.code ({ cls := "MacroAssembler", name := "define", desc := "(JI)V" } : Jvm.MethodName) prog_1_method_56_code (4 : Nat) (Option.none : Option Jvm.ClassFile.FieldType)).before args0 about1 = true := code_word (m := ⟨2, 45⟩) (meth := k2m45) (c := k2c45) (by decide +kernel) rfl rfl rfl (by decide +kernel)
set_option maxRecDepth 65536 in
theorem w_c49 : (Jvm.Cond.code ({ cls := "MacroAssembler", name := "symFind", desc := "(J)I" } : Jvm.MethodName) prog_1_method_35_code (4 : Nat) (Option.some Jvm.ClassFile.FieldType.int)).before args0 about1 = true := code_word (m := ⟨2, 26⟩) (meth := k2m26) (c := k2c26) (by decide +kernel) rfl rfl rfl (by decide +kernel)
set_option maxRecDepth 65536 in
theorem w_c50 : (Jvm.Cond.code ({ cls := "MacroAssembler", name := "parseExpr", desc := "(I)I" } : Jvm.MethodName) prog_1_method_78_code (7 : Nat) (Option.some Jvm.ClassFile.FieldType.int)).before args0 about1 = true := code_word (m := ⟨2, 59⟩) (meth := k2m59) (c := k2c59) (by decide +kernel) rfl rfl rfl (by decide +kernel)
set_option maxRecDepth 65536 in
theorem w_c51 : (Jvm.Cond.code ({ cls := "MacroAssembler", name := "emit", desc := "(I)V" } : Jvm.MethodName) prog_1_method_57_code (2 : Nat) (Option.none : Option Jvm.ClassFile.FieldType)).before args0 about1 = true := code_word (m := ⟨2, 46⟩) (meth := k2m46) (c := k2c46) (by decide +kernel) rfl rfl rfl (by decide +kernel)
set_option maxRecDepth 65536 in
theorem w_c52 : (Jvm.Cond.code ({ cls := "MacroAssembler", name := "exhausted", desc := "()V" } : Jvm.MethodName) prog_1_method_42_code (1 : Nat) (Option.none : Option Jvm.ClassFile.FieldType)).before args0 about1 = true := code_word (m := ⟨2, 33⟩) (meth := k2m33) (c := k2c33) (by decide +kernel) rfl rfl rfl (by decide +kernel)
set_option maxRecDepth 65536 in
theorem w_c53 : (Jvm.Cond.code ({ cls := "MacroAssembler", name := "addIdent", desc := "(JI)V" } : Jvm.MethodName) prog_1_method_79_code (6 : Nat) (Option.none : Option Jvm.ClassFile.FieldType)).before args0 about1 = true := code_word (m := ⟨2, 60⟩) (meth := k2m60) (c := k2c60) (by decide +kernel) rfl rfl rfl (by decide +kernel)
set_option maxRecDepth 65536 in
theorem w_c54 : (Jvm.Cond.code ({ cls := "MacroAssembler", name := "addFixup", desc := "(I)V" } : Jvm.MethodName) prog_1_method_81_code (3 : Nat) (Option.none : Option Jvm.ClassFile.FieldType)).before args0 about1 = true := code_word (m := ⟨2, 61⟩) (meth := k2m61) (c := k2c61) (by decide +kernel) rfl rfl rfl (by decide +kernel)
set_option maxRecDepth 65536 in
theorem w_c55 : (Jvm.Cond.code ({ cls := "MacroAssembler", name := "formSimple", desc := "(I)V" } : Jvm.MethodName) prog_1_method_61_code (2 : Nat) (Option.none : Option Jvm.ClassFile.FieldType)).before args0 about1 = true := code_word (m := ⟨2, 49⟩) (meth := k2m49) (c := k2c49) (by decide +kernel) rfl rfl rfl (by decide +kernel)
set_option maxRecDepth 65536 in
theorem w_c56 : (Jvm.Cond.code ({ cls := "MacroAssembler", name := "finish", desc := "()V" } : Jvm.MethodName) prog_1_method_82_code (5 : Nat) (Option.none : Option Jvm.ClassFile.FieldType)).before args0 about1 = true := code_word (m := ⟨2, 62⟩) (meth := k2m62) (c := k2c62) (by decide +kernel) rfl rfl rfl (by decide +kernel)
set_option maxRecDepth 65536 in
theorem w_c57 : (Jvm.Cond.code ({ cls := "MacroAssembler", name := "buildListing", desc := "()V" } : Jvm.MethodName) prog_1_method_87_code (3 : Nat) (Option.none : Option Jvm.ClassFile.FieldType)).before args0 about1 = true := code_word (m := ⟨2, 67⟩) (meth := k2m67) (c := k2c67) (by decide +kernel) rfl rfl rfl (by decide +kernel)
set_option maxRecDepth 65536 in
theorem w_c58 : (Jvm.Cond.code ({ cls := "MacroAssembler", name := "putName", desc := "(J)V" } : Jvm.MethodName) prog_1_method_84_code (6 : Nat) (Option.none : Option Jvm.ClassFile.FieldType)).before args0 about1 = true := code_word (m := ⟨2, 64⟩) (meth := k2m64) (c := k2c64) (by decide +kernel) rfl rfl rfl (by decide +kernel)
set_option maxRecDepth 65536 in
theorem w_c59 : (Jvm.Cond.code ({ cls := "MacroAssembler", name := "nameLen", desc := "(J)I" } : Jvm.MethodName) prog_1_method_30_code (7 : Nat) (Option.some Jvm.ClassFile.FieldType.int)).before args0 about1 = true := code_word (m := ⟨2, 21⟩) (meth := k2m21) (c := k2c21) (by decide +kernel) rfl rfl rfl (by decide +kernel)
set_option maxRecDepth 65536 in
theorem w_c60 : (Jvm.Cond.code ({ cls := "MacroAssembler", name := "nameChar", desc := "(JII)I" } : Jvm.MethodName) prog_1_method_31_code (5 : Nat) (Option.some Jvm.ClassFile.FieldType.int)).before args0 about1 = true := code_word (m := ⟨2, 22⟩) (meth := k2m22) (c := k2c22) (by decide +kernel) rfl rfl rfl (by decide +kernel)
set_option maxRecDepth 65536 in
theorem w_c61 : (Jvm.Cond.code ({ cls := "MacroAssembler", name := "lstPut", desc := "(I)V" } : Jvm.MethodName) prog_1_method_83_code (2 : Nat) (Option.none : Option Jvm.ClassFile.FieldType)).before args0 about1 = true := code_word (m := ⟨2, 63⟩) (meth := k2m63) (c := k2c63) (by decide +kernel) rfl rfl rfl (by decide +kernel)
set_option maxRecDepth 65536 in
theorem w_c62 : (Jvm.Cond.code ({ cls := "MacroAssembler", name := "putKw", desc := "(I)V" } : Jvm.MethodName) prog_1_method_85_code (4 : Nat) (Option.none : Option Jvm.ClassFile.FieldType)).before args0 about1 = true := code_word (m := ⟨2, 65⟩) (meth := k2m65) (c := k2c65) (by decide +kernel) rfl rfl rfl (by decide +kernel)
set_option maxRecDepth 65536 in
theorem w_c63 : (Jvm.Cond.code ({ cls := "MacroAssembler", name := "putNum", desc := "(I)V" } : Jvm.MethodName) prog_1_method_86_code (3 : Nat) (Option.none : Option Jvm.ClassFile.FieldType)).before args0 about1 = true := code_word (m := ⟨2, 66⟩) (meth := k2m66) (c := k2c66) (by decide +kernel) rfl rfl rfl (by decide +kernel)
set_option maxRecDepth 65536 in
theorem w_c64 : (Jvm.Cond.code ({ cls := "MacroAssembler", name := "listOne", desc := "(I)I" } : Jvm.MethodName) prog_1_method_88_code (3 : Nat) (Option.some Jvm.ClassFile.FieldType.int)).before args0 about1 = true := code_word (m := ⟨2, 68⟩) (meth := k2m68) (c := k2c68) (by decide +kernel) rfl rfl rfl (by decide +kernel)
set_option maxRecDepth 65536 in
theorem w_c65 : (Jvm.Cond.code ({ cls := "MacroAssemblerL3", name := "op", desc := "(LMacroAssembler;II)I" } : Jvm.MethodName) method_2_code (4 : Nat) (Option.some Jvm.ClassFile.FieldType.int)).before args0 about1 = true := code_word (m := ⟨1, 1⟩) (meth := k1m1) (c := k1c1) (by decide +kernel) rfl rfl rfl (by decide +kernel)
set_option maxRecDepth 65536 in
theorem w_c66 : (Jvm.Cond.code ({ cls := "MacroAssembler", name := "imageByte", desc := "(I)I" } : Jvm.MethodName) prog_1_method_10_code (2 : Nat) (Option.some Jvm.ClassFile.FieldType.int)).before args0 about1 = true := code_word (m := ⟨2, 5⟩) (meth := k2m5) (c := k2c5) (by decide +kernel) rfl rfl rfl (by decide +kernel)
set_option maxRecDepth 65536 in
theorem w_c67 : (Jvm.Cond.code ({ cls := "MacroAssembler", name := "imageLength", desc := "()I" } : Jvm.MethodName) prog_1_method_9_code (1 : Nat) (Option.some Jvm.ClassFile.FieldType.int)).before args0 about1 = true := code_word (m := ⟨2, 4⟩) (meth := k2m4) (c := k2c4) (by decide +kernel) rfl rfl rfl (by decide +kernel)
set_option maxRecDepth 65536 in
theorem w_c68 : (Jvm.Cond.code ({ cls := "MacroAssembler", name := "symbolCount", desc := "()I" } : Jvm.MethodName) prog_1_method_11_code (1 : Nat) (Option.some Jvm.ClassFile.FieldType.int)).before args0 about1 = true := code_word (m := ⟨2, 6⟩) (meth := k2m6) (c := k2c6) (by decide +kernel) rfl rfl rfl (by decide +kernel)
set_option maxRecDepth 65536 in
theorem w_c69 : (Jvm.Cond.code ({ cls := "MacroAssembler", name := "symbolValue", desc := "(I)I" } : Jvm.MethodName) prog_1_method_12_code (2 : Nat) (Option.some Jvm.ClassFile.FieldType.int)).before args0 about1 = true := code_word (m := ⟨2, 7⟩) (meth := k2m7) (c := k2c7) (by decide +kernel) rfl rfl rfl (by decide +kernel)
set_option maxRecDepth 65536 in
theorem w_c70 : (Jvm.Cond.code ({ cls := "MacroAssembler", name := "symbolNameChar", desc := "(II)I" } : Jvm.MethodName) prog_1_method_13_code (4 : Nat) (Option.some Jvm.ClassFile.FieldType.int)).before args0 about1 = true := code_word (m := ⟨2, 8⟩) (meth := k2m8) (c := k2c8) (by decide +kernel) rfl rfl rfl (by decide +kernel)
set_option maxRecDepth 65536 in
theorem w_c71 : (Jvm.Cond.code ({ cls := "MacroAssembler", name := "expansionCount", desc := "()I" } : Jvm.MethodName) prog_1_method_14_code (1 : Nat) (Option.some Jvm.ClassFile.FieldType.int)).before args0 about1 = true := code_word (m := ⟨2, 9⟩) (meth := k2m9) (c := k2c9) (by decide +kernel) rfl rfl rfl (by decide +kernel)
set_option maxRecDepth 65536 in
theorem w_c72 : (Jvm.Cond.code ({ cls := "MacroAssembler", name := "errorLine", desc := "()I" } : Jvm.MethodName) prog_1_method_7_code (1 : Nat) (Option.some Jvm.ClassFile.FieldType.int)).before args0 about1 = true := code_word (m := ⟨2, 3⟩) (meth := k2m3) (c := k2c3) (by decide +kernel) rfl rfl rfl (by decide +kernel)
def codes1 : List Jvm.Cond := [Jvm.Cond.code x code maxLocals ret, Jvm.Cond.code ({ cls := "MacroAssembler", name := "<init>", desc := "(I)V" } : Jvm.MethodName) prog_1_method_1_code (3 : Nat) (Option.none : Option Jvm.ClassFile.FieldType), Jvm.Cond.code ({ cls := "java/lang/Object", name := "<init>", desc := "()V" } : Jvm.MethodName) object_method_1_code (1 : Nat) (Option.none : Option Jvm.ClassFile.FieldType), Jvm.Cond.code ({ cls := "MacroAssembler", name := "feedLong", desc := "(J)I" } : Jvm.MethodName) prog_1_method_3_code (6 : Nat) (Option.some Jvm.ClassFile.FieldType.int), Jvm.Cond.code ({ cls := "MacroAssembler", name := "byteOf", desc := "(JI)I" } : Jvm.MethodName) prog_1_method_19_code (4 : Nat) (Option.some Jvm.ClassFile.FieldType.int), Jvm.Cond.code ({ cls := "MacroAssembler", name := "validChar", desc := "(I)Z" } : Jvm.MethodName) prog_1_method_18_code (2 : Nat) (Option.some Jvm.ClassFile.FieldType.boolean), Jvm.Cond.code ({ cls := "MacroAssembler", name := "resetResult", desc := "()V" } : Jvm.MethodName) prog_1_method_20_code (1 : Nat) (Option.none : Option Jvm.ClassFile.FieldType), Jvm.Cond.code ({ cls := "MacroAssemblerL3", name := "callLine", desc := "(I)J" } : Jvm.MethodName) method_3_code (3 : Nat) (Option.some Jvm.ClassFile.FieldType.long), Jvm.Cond.code ({ cls := "MacroAssembler", name := "assemble", desc := "()I" } : Jvm.MethodName) prog_1_method_5_code (2 : Nat) (Option.some Jvm.ClassFile.FieldType.int), Jvm.Cond.code ({ cls := "MacroAssembler", name := "startRun", desc := "()V" } : Jvm.MethodName) prog_1_method_38_code (1 : Nat) (Option.none : Option Jvm.ClassFile.FieldType), Jvm.Cond.code ({ cls := "MacroAssembler", name := "splitLines", desc := "()V" } : Jvm.MethodName) prog_1_method_39_code (3 : Nat) (Option.none : Option Jvm.ClassFile.FieldType), Jvm.Cond.code ({ cls := "MacroAssembler", name := "setInput", desc := "(II)V" } : Jvm.MethodName) prog_1_method_40_code (3 : Nat) (Option.none : Option Jvm.ClassFile.FieldType), Jvm.Cond.code ({ cls := "MacroAssembler", name := "step", desc := "()V" } : Jvm.MethodName) prog_1_method_41_code (2 : Nat) (Option.none : Option Jvm.ClassFile.FieldType), Jvm.Cond.code ({ cls := "MacroAssembler", name := "copyLine", desc := "(I)V" } : Jvm.MethodName) prog_1_method_45_code (3 : Nat) (Option.none : Option Jvm.ClassFile.FieldType), Jvm.Cond.code ({ cls := "MacroAssembler", name := "normalLine", desc := "()V" } : Jvm.MethodName) prog_1_method_53_code (10 : Nat) (Option.none : Option Jvm.ClassFile.FieldType), Jvm.Cond.code ({ cls := "MacroAssembler", name := "findLabel", desc := "()V" } : Jvm.MethodName) prog_1_method_54_code (4 : Nat) (Option.none : Option Jvm.ClassFile.FieldType), Jvm.Cond.code ({ cls := "MacroAssembler", name := "skipSpaces", desc := "(I)I" } : Jvm.MethodName) prog_1_method_25_code (4 : Nat) (Option.some Jvm.ClassFile.FieldType.int), Jvm.Cond.code ({ cls := "MacroAssembler", name := "identStart", desc := "(I)Z" } : Jvm.MethodName) prog_1_method_23_code (2 : Nat) (Option.some Jvm.ClassFile.FieldType.boolean), Jvm.Cond.code ({ cls := "MacroAssembler", name := "identEnd", desc := "(I)I" } : Jvm.MethodName) prog_1_method_26_code (4 : Nat) (Option.some Jvm.ClassFile.FieldType.int), Jvm.Cond.code ({ cls := "MacroAssembler", name := "identChar", desc := "(I)Z" } : Jvm.MethodName) prog_1_method_24_code (2 : Nat) (Option.some Jvm.ClassFile.FieldType.boolean), Jvm.Cond.code ({ cls := "MacroAssembler", name := "isDigit", desc := "(I)Z" } : Jvm.MethodName) prog_1_method_22_code (2 : Nat) (Option.some Jvm.ClassFile.FieldType.boolean), Jvm.Cond.code ({ cls := "MacroAssembler", name := "pack", desc := "(II)J" } : Jvm.MethodName) prog_1_method_27_code (6 : Nat) (Option.some Jvm.ClassFile.FieldType.long), Jvm.Cond.code ({ cls := "MacroAssembler", name := "wordAt", desc := "(I)J" } : Jvm.MethodName) prog_1_method_28_code (3 : Nat) (Option.some Jvm.ClassFile.FieldType.long), Jvm.Cond.code ({ cls := "MacroAssembler", name := "kwCode", desc := "(I)J" } : Jvm.MethodName) prog_1_method_33_code (2 : Nat) (Option.some Jvm.ClassFile.FieldType.long), Jvm.Cond.code ({ cls := "MacroAssembler", name := "word", desc := "(IIIII)J" } : Jvm.MethodName) prog_1_method_32_code (8 : Nat) (Option.some Jvm.ClassFile.FieldType.long), Jvm.Cond.code ({ cls := "MacroAssembler", name := "formMacro", desc := "()V" } : Jvm.MethodName) prog_1_method_60_code (3 : Nat) (Option.none : Option Jvm.ClassFile.FieldType), Jvm.Cond.code ({ cls := "MacroAssembler", name := "tokenize", desc := "(I)V" } : Jvm.MethodName) prog_1_method_75_code (8 : Nat) (Option.none : Option Jvm.ClassFile.FieldType), Jvm.Cond.code ({ cls := "MacroAssembler", name := "addTok", desc := "(IIJ)V" } : Jvm.MethodName) prog_1_method_77_code (5 : Nat) (Option.none : Option Jvm.ClassFile.FieldType), Jvm.Cond.code ({ cls := "MacroAssembler", name := "kwIndex", desc := "(J)I" } : Jvm.MethodName) prog_1_method_34_code (4 : Nat) (Option.some Jvm.ClassFile.FieldType.int), Jvm.Cond.code ({ cls := "MacroAssembler", name := "macroFind", desc := "(J)I" } : Jvm.MethodName) prog_1_method_36_code (4 : Nat) (Option.some Jvm.ClassFile.FieldType.int), Jvm.Cond.code ({ cls := "MacroAssembler", name := "defLine", desc := "(I)V" } : Jvm.MethodName) prog_1_method_50_code (4 : Nat) (Option.none : Option Jvm.ClassFile.FieldType), Jvm.Cond.code ({ cls := "MacroAssembler", name := "firstWord", desc := "(I)J" } : Jvm.MethodName) prog_1_method_29_code (3 : Nat) (Option.some Jvm.ClassFile.FieldType.long), Jvm.Cond.code ({ cls := "MacroAssembler", name := "callMacro", desc := "(II)V" } : Jvm.MethodName) prog_1_method_71_code (6 : Nat) (Option.none : Option Jvm.ClassFile.FieldType), Jvm.Cond.code ({ cls := "MacroAssembler", name := "defineLabel", desc := "()V" } : Jvm.MethodName) prog_1_method_55_code (1 : Nat) (Option.none : Option Jvm.ClassFile.FieldType), Jvm.Cond.code ({ cls := "MacroAssembler", name := "countArgs", desc := "(II)I" } : Jvm.MethodName) prog_1_method_72_code (6 : Nat) (Option.some Jvm.ClassFile.FieldType.int), Jvm.Cond.code ({ cls := "MacroAssembler", name := "push", desc := "(I)Z" } : Jvm.MethodName) prog_1_method_65_code (2 : Nat) (Option.some Jvm.ClassFile.FieldType.boolean), Jvm.Cond.code ({ cls := "MacroAssembler", name := "splitArgs", desc := "(III)V" } : Jvm.MethodName) prog_1_method_73_code (7 : Nat) (Option.none : Option Jvm.ClassFile.FieldType), Jvm.Cond.code ({ cls := "MacroAssembler", name := "storeArg", desc := "(III)V" } : Jvm.MethodName) prog_1_method_74_code (8 : Nat) (Option.none : Option Jvm.ClassFile.FieldType), Jvm.Cond.code ({ cls := "MacroAssembler", name := "outerLine", desc := "()I" } : Jvm.MethodName) prog_1_method_43_code (2 : Nat) (Option.some Jvm.ClassFile.FieldType.int), Jvm.Cond.code ({ cls := "MacroAssembler", name := "substitute", desc := "(I)V" } : Jvm.MethodName) prog_1_method_46_code (8 : Nat) (Option.none : Option Jvm.ClassFile.FieldType), Jvm.Cond.code ({ cls := "MacroAssembler", name := "topCall", desc := "()I" } : Jvm.MethodName) prog_1_method_44_code (2 : Nat) (Option.some Jvm.ClassFile.FieldType.int), Jvm.Cond.code ({ cls := "MacroAssembler", name := "putLocal", desc := "(III)I" } : Jvm.MethodName) prog_1_method_49_code (6 : Nat) (Option.some Jvm.ClassFile.FieldType.int), Jvm.Cond.code ({ cls := "MacroAssembler", name := "put", desc := "(I)V" } : Jvm.MethodName) prog_1_method_47_code (2 : Nat) (Option.none : Option Jvm.ClassFile.FieldType), Jvm.Cond.code ({ cls := "MacroAssembler", name := "toDigits", desc := "(I)V" } : Jvm.MethodName) prog_1_method_37_code (5 : Nat) (Option.none : Option Jvm.ClassFile.FieldType), Jvm.Cond.code ({ cls := "MacroAssembler", name := "putArg", desc := "(II)V" } : Jvm.MethodName) prog_1_method_48_code (5 : Nat) (Option.none : Option Jvm.ClassFile.FieldType), Jvm.Cond.code ({ cls := "MacroAssembler", name := "statement", desc := "(I)V" } : Jvm.MethodName) prog_1_method_58_code (2 : Nat) (Option.none : Option Jvm.ClassFile.FieldType), Jvm.Cond.code ({ cls := "MacroAssembler", name := "lexNumber", desc := "(I)I" } : Jvm.MethodName) prog_1_method_76_code (5 : Nat) (Option.some Jvm.ClassFile.FieldType.int), Jvm.Cond.code ({ cls := "MacroAssembler", name := "formOperand", desc := "(I)V" } : Jvm.MethodName) prog_1_method_62_code (5 : Nat) (Option.none : Option Jvm.ClassFile.FieldType), Jvm.Cond.code ({ cls := "MacroAssembler", name := "define", desc := "(JI)V" } : Jvm.MethodName) prog_1_method_56_code (4 : Nat) (Option.none : Option Jvm.ClassFile.FieldType), Jvm.Cond.code ({ cls := "MacroAssembler", name := "symFind", desc := "(J)I" } : Jvm.MethodName) prog_1_method_35_code (4 : Nat) (Option.some Jvm.ClassFile.FieldType.int), Jvm.Cond.code ({ cls := "MacroAssembler", name := "parseExpr", desc := "(I)I" } : Jvm.MethodName) prog_1_method_78_code (7 : Nat) (Option.some Jvm.ClassFile.FieldType.int), Jvm.Cond.code ({ cls := "MacroAssembler", name := "emit", desc := "(I)V" } : Jvm.MethodName) prog_1_method_57_code (2 : Nat) (Option.none : Option Jvm.ClassFile.FieldType), Jvm.Cond.code ({ cls := "MacroAssembler", name := "exhausted", desc := "()V" } : Jvm.MethodName) prog_1_method_42_code (1 : Nat) (Option.none : Option Jvm.ClassFile.FieldType), Jvm.Cond.code ({ cls := "MacroAssembler", name := "addIdent", desc := "(JI)V" } : Jvm.MethodName) prog_1_method_79_code (6 : Nat) (Option.none : Option Jvm.ClassFile.FieldType), Jvm.Cond.code ({ cls := "MacroAssembler", name := "addFixup", desc := "(I)V" } : Jvm.MethodName) prog_1_method_81_code (3 : Nat) (Option.none : Option Jvm.ClassFile.FieldType), Jvm.Cond.code ({ cls := "MacroAssembler", name := "formSimple", desc := "(I)V" } : Jvm.MethodName) prog_1_method_61_code (2 : Nat) (Option.none : Option Jvm.ClassFile.FieldType), Jvm.Cond.code ({ cls := "MacroAssembler", name := "finish", desc := "()V" } : Jvm.MethodName) prog_1_method_82_code (5 : Nat) (Option.none : Option Jvm.ClassFile.FieldType), Jvm.Cond.code ({ cls := "MacroAssembler", name := "buildListing", desc := "()V" } : Jvm.MethodName) prog_1_method_87_code (3 : Nat) (Option.none : Option Jvm.ClassFile.FieldType), Jvm.Cond.code ({ cls := "MacroAssembler", name := "putName", desc := "(J)V" } : Jvm.MethodName) prog_1_method_84_code (6 : Nat) (Option.none : Option Jvm.ClassFile.FieldType), Jvm.Cond.code ({ cls := "MacroAssembler", name := "nameLen", desc := "(J)I" } : Jvm.MethodName) prog_1_method_30_code (7 : Nat) (Option.some Jvm.ClassFile.FieldType.int), Jvm.Cond.code ({ cls := "MacroAssembler", name := "nameChar", desc := "(JII)I" } : Jvm.MethodName) prog_1_method_31_code (5 : Nat) (Option.some Jvm.ClassFile.FieldType.int), Jvm.Cond.code ({ cls := "MacroAssembler", name := "lstPut", desc := "(I)V" } : Jvm.MethodName) prog_1_method_83_code (2 : Nat) (Option.none : Option Jvm.ClassFile.FieldType), Jvm.Cond.code ({ cls := "MacroAssembler", name := "putKw", desc := "(I)V" } : Jvm.MethodName) prog_1_method_85_code (4 : Nat) (Option.none : Option Jvm.ClassFile.FieldType), Jvm.Cond.code ({ cls := "MacroAssembler", name := "putNum", desc := "(I)V" } : Jvm.MethodName) prog_1_method_86_code (3 : Nat) (Option.none : Option Jvm.ClassFile.FieldType), Jvm.Cond.code ({ cls := "MacroAssembler", name := "listOne", desc := "(I)I" } : Jvm.MethodName) prog_1_method_88_code (3 : Nat) (Option.some Jvm.ClassFile.FieldType.int), Jvm.Cond.code ({ cls := "MacroAssemblerL3", name := "op", desc := "(LMacroAssembler;II)I" } : Jvm.MethodName) method_2_code (4 : Nat) (Option.some Jvm.ClassFile.FieldType.int), Jvm.Cond.code ({ cls := "MacroAssembler", name := "imageByte", desc := "(I)I" } : Jvm.MethodName) prog_1_method_10_code (2 : Nat) (Option.some Jvm.ClassFile.FieldType.int), Jvm.Cond.code ({ cls := "MacroAssembler", name := "imageLength", desc := "()I" } : Jvm.MethodName) prog_1_method_9_code (1 : Nat) (Option.some Jvm.ClassFile.FieldType.int), Jvm.Cond.code ({ cls := "MacroAssembler", name := "symbolCount", desc := "()I" } : Jvm.MethodName) prog_1_method_11_code (1 : Nat) (Option.some Jvm.ClassFile.FieldType.int), Jvm.Cond.code ({ cls := "MacroAssembler", name := "symbolValue", desc := "(I)I" } : Jvm.MethodName) prog_1_method_12_code (2 : Nat) (Option.some Jvm.ClassFile.FieldType.int), Jvm.Cond.code ({ cls := "MacroAssembler", name := "symbolNameChar", desc := "(II)I" } : Jvm.MethodName) prog_1_method_13_code (4 : Nat) (Option.some Jvm.ClassFile.FieldType.int), Jvm.Cond.code ({ cls := "MacroAssembler", name := "expansionCount", desc := "()I" } : Jvm.MethodName) prog_1_method_14_code (1 : Nat) (Option.some Jvm.ClassFile.FieldType.int), Jvm.Cond.code ({ cls := "MacroAssembler", name := "errorLine", desc := "()I" } : Jvm.MethodName) prog_1_method_7_code (1 : Nat) (Option.some Jvm.ClassFile.FieldType.int)]
set_option maxRecDepth 65536 in
theorem codes_eq : words1.filter isCode = codes1 := rfl
theorem w_codes : ∀ c ∈ words1.filter isCode, c.before args0 about1 = true := by
  rw [codes_eq]
  intro c hc
  simp only [codes1, List.mem_cons, List.not_mem_nil, or_false] at hc
  rcases hc with rfl | rfl | rfl | rfl | rfl | rfl | rfl | rfl | rfl | rfl | rfl | rfl | rfl | rfl | rfl | rfl | rfl | rfl | rfl | rfl | rfl | rfl | rfl | rfl | rfl | rfl | rfl | rfl | rfl | rfl | rfl | rfl | rfl | rfl | rfl | rfl | rfl | rfl | rfl | rfl | rfl | rfl | rfl | rfl | rfl | rfl | rfl | rfl | rfl | rfl | rfl | rfl | rfl | rfl | rfl | rfl | rfl | rfl | rfl | rfl | rfl | rfl | rfl | rfl | rfl | rfl | rfl | rfl | rfl | rfl | rfl | rfl | rfl
  · exact w_c0
  · exact w_c1
  · exact w_c2
  · exact w_c3
  · exact w_c4
  · exact w_c5
  · exact w_c6
  · exact w_c7
  · exact w_c8
  · exact w_c9
  · exact w_c10
  · exact w_c11
  · exact w_c12
  · exact w_c13
  · exact w_c14
  · exact w_c15
  · exact w_c16
  · exact w_c17
  · exact w_c18
  · exact w_c19
  · exact w_c20
  · exact w_c21
  · exact w_c22
  · exact w_c23
  · exact w_c24
  · exact w_c25
  · exact w_c26
  · exact w_c27
  · exact w_c28
  · exact w_c29
  · exact w_c30
  · exact w_c31
  · exact w_c32
  · exact w_c33
  · exact w_c34
  · exact w_c35
  · exact w_c36
  · exact w_c37
  · exact w_c38
  · exact w_c39
  · exact w_c40
  · exact w_c41
  · exact w_c42
  · exact w_c43
  · exact w_c44
  · exact w_c45
  · exact w_c46
  · exact w_c47
  · exact w_c48
  · exact w_c49
  · exact w_c50
  · exact w_c51
  · exact w_c52
  · exact w_c53
  · exact w_c54
  · exact w_c55
  · exact w_c56
  · exact w_c57
  · exact w_c58
  · exact w_c59
  · exact w_c60
  · exact w_c61
  · exact w_c62
  · exact w_c63
  · exact w_c64
  · exact w_c65
  · exact w_c66
  · exact w_c67
  · exact w_c68
  · exact w_c69
  · exact w_c70
  · exact w_c71
  · exact w_c72
set_option maxRecDepth 65536 in
theorem w_t1 : (words1.take 24).all (fun c => isCode c || c.before args0 about1) = true := by decide +kernel
set_option maxRecDepth 65536 in
theorem w_t2 : ((words1.drop 24).take 24).all (fun c => isCode c || c.before args0 about1) = true := by decide +kernel
set_option maxRecDepth 65536 in
theorem w_t3 : (((words1.drop 24).drop 24).take 24).all (fun c => isCode c || c.before args0 about1) = true := by decide +kernel
set_option maxRecDepth 65536 in
theorem w_t4 : ((((words1.drop 24).drop 24).drop 24).take 24).all (fun c => isCode c || c.before args0 about1) = true := by decide +kernel
set_option maxRecDepth 65536 in
theorem w_t5 : (((((words1.drop 24).drop 24).drop 24).drop 24).take 24).all (fun c => isCode c || c.before args0 about1) = true := by decide +kernel
set_option maxRecDepth 65536 in
theorem w_t6 : ((((((words1.drop 24).drop 24).drop 24).drop 24).drop 24).take 24).all (fun c => isCode c || c.before args0 about1) = true := by decide +kernel
set_option maxRecDepth 65536 in
theorem w_t7 : (((((((words1.drop 24).drop 24).drop 24).drop 24).drop 24).drop 24).take 24).all (fun c => isCode c || c.before args0 about1) = true := by decide +kernel
set_option maxRecDepth 65536 in
theorem w_t8 : ((((((((words1.drop 24).drop 24).drop 24).drop 24).drop 24).drop 24).drop 24).take 24).all (fun c => isCode c || c.before args0 about1) = true := by decide +kernel
set_option maxRecDepth 65536 in
theorem w_t9 : (((((((((words1.drop 24).drop 24).drop 24).drop 24).drop 24).drop 24).drop 24).drop 24).take 24).all (fun c => isCode c || c.before args0 about1) = true := by decide +kernel
set_option maxRecDepth 65536 in
theorem w_t10 : ((((((((((words1.drop 24).drop 24).drop 24).drop 24).drop 24).drop 24).drop 24).drop 24).drop 24).take 24).all (fun c => isCode c || c.before args0 about1) = true := by decide +kernel
set_option maxRecDepth 65536 in
theorem w_t11 : (((((((((((words1.drop 24).drop 24).drop 24).drop 24).drop 24).drop 24).drop 24).drop 24).drop 24).drop 24).take 24).all (fun c => isCode c || c.before args0 about1) = true := by decide +kernel
set_option maxRecDepth 65536 in
theorem w_t12 : ((((((((((((words1.drop 24).drop 24).drop 24).drop 24).drop 24).drop 24).drop 24).drop 24).drop 24).drop 24).drop 24).take 24).all (fun c => isCode c || c.before args0 about1) = true := by decide +kernel
set_option maxRecDepth 65536 in
theorem w_t13 : (((((((((((((words1.drop 24).drop 24).drop 24).drop 24).drop 24).drop 24).drop 24).drop 24).drop 24).drop 24).drop 24).drop 24).take 24).all (fun c => isCode c || c.before args0 about1) = true := by decide +kernel
set_option maxRecDepth 65536 in
theorem w_t14 : ((((((((((((((words1.drop 24).drop 24).drop 24).drop 24).drop 24).drop 24).drop 24).drop 24).drop 24).drop 24).drop 24).drop 24).drop 24).take 24).all (fun c => isCode c || c.before args0 about1) = true := by decide +kernel
set_option maxRecDepth 65536 in
theorem w_t15 : (((((((((((((((words1.drop 24).drop 24).drop 24).drop 24).drop 24).drop 24).drop 24).drop 24).drop 24).drop 24).drop 24).drop 24).drop 24).drop 24).take 24).all (fun c => isCode c || c.before args0 about1) = true := by decide +kernel
set_option maxRecDepth 65536 in
theorem w_t16 : ((((((((((((((((words1.drop 24).drop 24).drop 24).drop 24).drop 24).drop 24).drop 24).drop 24).drop 24).drop 24).drop 24).drop 24).drop 24).drop 24).drop 24).take 24).all (fun c => isCode c || c.before args0 about1) = true := by decide +kernel
set_option maxRecDepth 65536 in
theorem w_t17 : (((((((((((((((((words1.drop 24).drop 24).drop 24).drop 24).drop 24).drop 24).drop 24).drop 24).drop 24).drop 24).drop 24).drop 24).drop 24).drop 24).drop 24).drop 24).take 24).all (fun c => isCode c || c.before args0 about1) = true := by decide +kernel
set_option maxRecDepth 65536 in
theorem w_t18 : ((((((((((((((((((words1.drop 24).drop 24).drop 24).drop 24).drop 24).drop 24).drop 24).drop 24).drop 24).drop 24).drop 24).drop 24).drop 24).drop 24).drop 24).drop 24).drop 24).take 24).all (fun c => isCode c || c.before args0 about1) = true := by decide +kernel
set_option maxRecDepth 65536 in
theorem w_t19 : (((((((((((((((((((words1.drop 24).drop 24).drop 24).drop 24).drop 24).drop 24).drop 24).drop 24).drop 24).drop 24).drop 24).drop 24).drop 24).drop 24).drop 24).drop 24).drop 24).drop 24).take 24).all (fun c => isCode c || c.before args0 about1) = true := by decide +kernel
set_option maxRecDepth 65536 in
theorem w_t20 : ((((((((((((((((((((words1.drop 24).drop 24).drop 24).drop 24).drop 24).drop 24).drop 24).drop 24).drop 24).drop 24).drop 24).drop 24).drop 24).drop 24).drop 24).drop 24).drop 24).drop 24).drop 24).take 24).all (fun c => isCode c || c.before args0 about1) = true := by decide +kernel
set_option maxRecDepth 65536 in
theorem w_t21 : ((((((((((((((((((((words1.drop 24).drop 24).drop 24).drop 24).drop 24).drop 24).drop 24).drop 24).drop 24).drop 24).drop 24).drop 24).drop 24).drop 24).drop 24).drop 24).drop 24).drop 24).drop 24).drop 24).all (fun c => isCode c || c.before args0 about1) = true := by decide +kernel
theorem w_tables : (allAtoms (Jvm.Cond.code x code maxLocals ret :: tables_1)).before args0 about1 = true := by
  rw [allAtoms_all]
  show words1.all (fun c => c.before args0 about1) = true
  refine all_split ?_ w_codes
  rw [← List.take_append_drop 24 words1, List.all_append, w_t1, ← List.take_append_drop 24 (words1.drop 24), List.all_append, w_t2, ← List.take_append_drop 24 ((words1.drop 24).drop 24), List.all_append, w_t3, ← List.take_append_drop 24 (((words1.drop 24).drop 24).drop 24), List.all_append, w_t4, ← List.take_append_drop 24 ((((words1.drop 24).drop 24).drop 24).drop 24), List.all_append, w_t5, ← List.take_append_drop 24 (((((words1.drop 24).drop 24).drop 24).drop 24).drop 24), List.all_append, w_t6, ← List.take_append_drop 24 ((((((words1.drop 24).drop 24).drop 24).drop 24).drop 24).drop 24), List.all_append, w_t7, ← List.take_append_drop 24 (((((((words1.drop 24).drop 24).drop 24).drop 24).drop 24).drop 24).drop 24), List.all_append, w_t8, ← List.take_append_drop 24 ((((((((words1.drop 24).drop 24).drop 24).drop 24).drop 24).drop 24).drop 24).drop 24), List.all_append, w_t9, ← List.take_append_drop 24 (((((((((words1.drop 24).drop 24).drop 24).drop 24).drop 24).drop 24).drop 24).drop 24).drop 24), List.all_append, w_t10, ← List.take_append_drop 24 ((((((((((words1.drop 24).drop 24).drop 24).drop 24).drop 24).drop 24).drop 24).drop 24).drop 24).drop 24), List.all_append, w_t11, ← List.take_append_drop 24 (((((((((((words1.drop 24).drop 24).drop 24).drop 24).drop 24).drop 24).drop 24).drop 24).drop 24).drop 24).drop 24), List.all_append, w_t12, ← List.take_append_drop 24 ((((((((((((words1.drop 24).drop 24).drop 24).drop 24).drop 24).drop 24).drop 24).drop 24).drop 24).drop 24).drop 24).drop 24), List.all_append, w_t13, ← List.take_append_drop 24 (((((((((((((words1.drop 24).drop 24).drop 24).drop 24).drop 24).drop 24).drop 24).drop 24).drop 24).drop 24).drop 24).drop 24).drop 24), List.all_append, w_t14, ← List.take_append_drop 24 ((((((((((((((words1.drop 24).drop 24).drop 24).drop 24).drop 24).drop 24).drop 24).drop 24).drop 24).drop 24).drop 24).drop 24).drop 24).drop 24), List.all_append, w_t15, ← List.take_append_drop 24 (((((((((((((((words1.drop 24).drop 24).drop 24).drop 24).drop 24).drop 24).drop 24).drop 24).drop 24).drop 24).drop 24).drop 24).drop 24).drop 24).drop 24), List.all_append, w_t16, ← List.take_append_drop 24 ((((((((((((((((words1.drop 24).drop 24).drop 24).drop 24).drop 24).drop 24).drop 24).drop 24).drop 24).drop 24).drop 24).drop 24).drop 24).drop 24).drop 24).drop 24), List.all_append, w_t17, ← List.take_append_drop 24 (((((((((((((((((words1.drop 24).drop 24).drop 24).drop 24).drop 24).drop 24).drop 24).drop 24).drop 24).drop 24).drop 24).drop 24).drop 24).drop 24).drop 24).drop 24).drop 24), List.all_append, w_t18, ← List.take_append_drop 24 ((((((((((((((((((words1.drop 24).drop 24).drop 24).drop 24).drop 24).drop 24).drop 24).drop 24).drop 24).drop 24).drop 24).drop 24).drop 24).drop 24).drop 24).drop 24).drop 24).drop 24), List.all_append, w_t19, ← List.take_append_drop 24 (((((((((((((((((((words1.drop 24).drop 24).drop 24).drop 24).drop 24).drop 24).drop 24).drop 24).drop 24).drop 24).drop 24).drop 24).drop 24).drop 24).drop 24).drop 24).drop 24).drop 24).drop 24), List.all_append, w_t20, w_t21]
  rfl
set_option maxRecDepth 65536 in
theorem w_case : (Jvm.Cond.and given_1 narrow_1).before args0 about1 = true := by decide +kernel
theorem w_applies : (headSpec (Jvm.Cond.code x code maxLocals ret :: tables_1) room_1).applies x e0.platform about1 = true :=
  (Spec.applies_iff w_frames).mpr ⟨w_running, w_runnable, w_alone, w_named, w_hears, w_ripe, w_room, w_tables⟩
theorem atStart : AtStart classFile x code maxLocals ret World_1 tables_1 room_1 Calls_1 rest_1 Pre_1 launch0 p0 e0 about1 theMethod args0 below0 :=
  ⟨lists_1, trivial, launch0.admits_env _ _ _, launch0.least_env, fairChoices_fair.cas, fairChoices_fair.clock, w_frames, w_args, w_heap, w_applies, trivial, trivial, w_case⟩
end start1
theorem witness_1 : WitnessClaimed_1 := ⟨start1.p0, start1.e0, start1.about1, start1.theMethod, start1.args0, start1.below0, start1.atStart⟩
end Jvm.Pilot.@@N@@
