import JvmDerived
import JvmDerived.Pilot.@@N@@Statement
import JvmDerived.Pilot.@@N@@Code
set_option linter.unusedVariables false
set_option linter.unusedSimpArgs false
namespace Jvm.Own
open Sem ClassFile Op Lib Jvm.Stand Jvm.Free Jvm.LawKit Jvm.RoadKit
/-! OWN 1: words of the sheet, resolved -/
abbrev AHeap := List (FieldType × List Value)
abbrev Ws := List Jvm.Cond
def rFld (ws : Ws) (own : String) (i : Nat) : Option (String × String × String) :=
  ws.findSome? fun d => match d with
    | .fieldLink o j C n t => if o = own ∧ j = i then some (C, n, t) else none
    | _ => none
def rCls (ws : Ws) (own : String) (i : Nat) : Option String :=
  ws.findSome? fun d => match d with
    | .classLink o j C => if o = own ∧ j = i then some C else none
    | _ => none
def rMth (ws : Ws) (own : String) (i : Nat) : Option MethodName :=
  ws.findSome? fun d => match d with
    | .methodLink o j y => if o = own ∧ j = i then some y else none
    | _ => none
def rCon (ws : Ws) (own : String) (i : Nat) : Option Int32 :=
  ws.findSome? fun d => match d with
    | .constant o j v => if o = own ∧ j = i then some v else none
    | _ => none
def rConL (ws : Ws) (own : String) (i : Nat) : Option Int64 :=
  ws.findSome? fun d => match d with
    | .constantLong o j v => if o = own ∧ j = i then some v else none
    | _ => none
def rInst (ws : Ws) (C : String) : Option Nat :=
  ws.findSome? fun d => match d with
    | .instantiable c n => if c = C then some n else none
    | _ => none
def rCode (ws : Ws) (y : MethodName) : Option (ByteArray × Nat × Option FieldType) :=
  ws.findSome? fun d => match d with
    | .code z b m r => if z = y then some (b, m, r) else none
    | _ => none
def hasInit (ws : Ws) (C : String) : Bool := ws.any fun d => match d with | .initialized c => c == C | _ => false
def hasArr (ws : Ws) (t : FieldType) : Bool := ws.any fun d => match d with | .arrayClass c => decide (c = t) | _ => false
def hasStat (ws : Ws) (y : MethodName) : Bool := ws.any fun d => match d with | .static z => decide (z = y) | _ => false
def hasIM (ws : Ws) (y : MethodName) : Bool := ws.any fun d => match d with | .instanceMethod z => decide (z = y) | _ => false
def hasPriv (ws : Ws) (y : MethodName) : Bool := ws.any fun d => match d with | .privateMethod z => decide (z = y) | _ => false
def hasDecl (ws : Ws) (y : MethodName) : Bool := ws.any fun d => match d with | .declares z => decide (z = y) | _ => false
def hasSel (ws : Ws) (y : MethodName) : Bool := ws.any fun d => match d with | .selects c z z' => decide (c = y.cls ∧ z = y ∧ z' = y) | _ => false
def hasLays (ws : Ws) (C n t : String) : Bool := ws.any fun d => match d with | .lays c o n' t' => decide (c = C ∧ o = C ∧ n' = n ∧ t' = t) | _ => false
def hasLaysF (ws : Ws) (C n t : String) : Bool := ws.any fun d => match d with | .laysFinal c o n' t' => decide (c = C ∧ o = C ∧ n' = n ∧ t' = t) | _ => false
def layE (C : String) : Jvm.Cond → Option (String × String)
  | .lays c o n t => if c = C ∧ o = C ∧ (parseFieldDescriptor t).isSome = true then some (n, t) else none
  | .laysFinal c o n t => if c = C ∧ o = C ∧ (parseFieldDescriptor t).isSome = true then some (n, t) else none
  | _ => none
def olay (ws : Ws) (C : String) : List (String × String) := ws.filterMap (layE C)
def idx (x : String × String) : List (String × String) → Option Nat
  | [] => none
  | y :: r => if y = x then some 0 else (idx x r).map (· + 1)
def fidx (ws : Ws) (C n t : String) : Option Nat := idx (n, t) (olay ws C)
def gfR (ws : Ws) (own : String) (i : Nat) : Option (String × Nat) :=
  match rFld ws own i with
  | some (C, n, t) => (fidx ws C n t).map fun j => (C, j)
  | none => none
def pfR (ws : Ws) (own mn : String) (i : Nat) : Option (String × Nat × FieldType) :=
  match rFld ws own i with
  | some (C, n, t) =>
    match fidx ws C n t, parseFieldDescriptor t with
    | some j, some ty => if (hasLays ws C n t || (hasLaysF ws C n t && own == C && mn == "<init>")) && (rInst ws C).isSome && (olay ws C).all (fun q => q.1 != n || q.2 == t) then some (C, j, ty) else none
    | _, _ => none
  | none => none
section Res
variable {ws : Ws} {own C n t : String} {i : Nat} {y : MethodName}
theorem rFld_mem (h : rFld ws own i = some (C, n, t)) : Jvm.Cond.fieldLink own i C n t ∈ ws := by
  obtain ⟨d, hd, e⟩ := List.exists_of_findSome?_eq_some h
  split at e
  · split at e
    · rename_i q; obtain ⟨rfl, rfl⟩ := q; cases e; exact hd
    · cases e
  · cases e
theorem rCls_mem (h : rCls ws own i = some C) : Jvm.Cond.classLink own i C ∈ ws := by
  obtain ⟨d, hd, e⟩ := List.exists_of_findSome?_eq_some h
  split at e
  · split at e
    · rename_i q; obtain ⟨rfl, rfl⟩ := q; cases e; exact hd
    · cases e
  · cases e
theorem rMth_mem (h : rMth ws own i = some y) : Jvm.Cond.methodLink own i y ∈ ws := by
  obtain ⟨d, hd, e⟩ := List.exists_of_findSome?_eq_some h
  split at e
  · split at e
    · rename_i q; obtain ⟨rfl, rfl⟩ := q; cases e; exact hd
    · cases e
  · cases e
theorem rCon_mem {v : Int32} (h : rCon ws own i = some v) : Jvm.Cond.constant own i v ∈ ws := by
  obtain ⟨d, hd, e⟩ := List.exists_of_findSome?_eq_some h
  split at e
  · split at e
    · rename_i q; obtain ⟨rfl, rfl⟩ := q; cases e; exact hd
    · cases e
  · cases e
theorem rConL_mem {v : Int64} (h : rConL ws own i = some v) : Jvm.Cond.constantLong own i v ∈ ws := by
  obtain ⟨d, hd, e⟩ := List.exists_of_findSome?_eq_some h
  split at e
  · split at e
    · rename_i q; obtain ⟨rfl, rfl⟩ := q; cases e; exact hd
    · cases e
  · cases e
theorem rInst_mem {k : Nat} (h : rInst ws C = some k) : Jvm.Cond.instantiable C k ∈ ws := by
  obtain ⟨d, hd, e⟩ := List.exists_of_findSome?_eq_some h
  split at e
  · split at e
    · rename_i q; subst q; cases e; exact hd
    · cases e
  · cases e
theorem rCode_mem {b : ByteArray} {k : Nat} {r : Option FieldType} (h : rCode ws y = some (b, k, r)) : Jvm.Cond.code y b k r ∈ ws := by
  obtain ⟨d, hd, e⟩ := List.exists_of_findSome?_eq_some h
  split at e
  · split at e
    · rename_i q; subst q; cases e; exact hd
    · cases e
  · cases e
theorem hasInit_mem (h : hasInit ws C = true) : Jvm.Cond.initialized C ∈ ws := by
  obtain ⟨d, hd, e⟩ := List.any_eq_true.mp h
  split at e
  · rw [beq_iff_eq] at e; subst e; exact hd
  · cases e
theorem hasArr_mem {ty : FieldType} (h : hasArr ws ty = true) : Jvm.Cond.arrayClass ty ∈ ws := by
  obtain ⟨d, hd, e⟩ := List.any_eq_true.mp h
  split at e
  · have e := of_decide_eq_true e; subst e; exact hd
  · cases e
theorem hasStat_mem (h : hasStat ws y = true) : Jvm.Cond.static y ∈ ws := by
  obtain ⟨d, hd, e⟩ := List.any_eq_true.mp h
  split at e
  · have e := of_decide_eq_true e; subst e; exact hd
  · cases e
theorem hasIM_mem (h : hasIM ws y = true) : Jvm.Cond.instanceMethod y ∈ ws := by
  obtain ⟨d, hd, e⟩ := List.any_eq_true.mp h
  split at e
  · have e := of_decide_eq_true e; subst e; exact hd
  · cases e
theorem hasPriv_mem (h : hasPriv ws y = true) : Jvm.Cond.privateMethod y ∈ ws := by
  obtain ⟨d, hd, e⟩ := List.any_eq_true.mp h
  split at e
  · have e := of_decide_eq_true e; subst e; exact hd
  · cases e
theorem hasDecl_mem (h : hasDecl ws y = true) : Jvm.Cond.declares y ∈ ws := by
  obtain ⟨d, hd, e⟩ := List.any_eq_true.mp h
  split at e
  · have e := of_decide_eq_true e; subst e; exact hd
  · cases e
theorem hasSel_mem (h : hasSel ws y = true) : Jvm.Cond.selects y.cls y y ∈ ws := by
  obtain ⟨d, hd, e⟩ := List.any_eq_true.mp h
  split at e
  · obtain ⟨rfl, rfl, rfl⟩ := of_decide_eq_true e; exact hd
  · cases e
theorem hasLays_mem (h : hasLays ws C n t = true) : Jvm.Cond.lays C C n t ∈ ws := by
  obtain ⟨d, hd, e⟩ := List.any_eq_true.mp h
  split at e
  · obtain ⟨rfl, rfl, rfl, rfl⟩ := of_decide_eq_true e; exact hd
  · cases e
theorem hasLaysF_mem (h : hasLaysF ws C n t = true) : Jvm.Cond.laysFinal C C n t ∈ ws := by
  obtain ⟨d, hd, e⟩ := List.any_eq_true.mp h
  split at e
  · obtain ⟨rfl, rfl, rfl, rfl⟩ := of_decide_eq_true e; exact hd
  · cases e
theorem lay_mem (h : (n, t) ∈ olay ws C) : (Jvm.Cond.lays C C n t ∈ ws ∨ Jvm.Cond.laysFinal C C n t ∈ ws) ∧ ∃ ty, parseFieldDescriptor t = some ty := by
  obtain ⟨d, hd, e⟩ := List.mem_filterMap.mp h
  unfold layE at e
  split at e
  · split at e
    · rename_i q; obtain ⟨rfl, rfl, q⟩ := q; cases e; exact ⟨Or.inl hd, Option.isSome_iff_exists.mp q⟩
    · cases e
  · split at e
    · rename_i q; obtain ⟨rfl, rfl, q⟩ := q; cases e; exact ⟨Or.inr hd, Option.isSome_iff_exists.mp q⟩
    · cases e
  · cases e
theorem idx_get {x : String × String} : ∀ {l : List (String × String)} {j : Nat}, idx x l = some j → l[j]? = some x
  | [], _, h => by cases h
  | y :: r, j, h => by
    unfold idx at h
    split at h
    · rename_i q; cases h; simp [q]
    · obtain ⟨j', h', rfl⟩ := Option.map_eq_some_iff.mp h
      simpa using idx_get h'
theorem fidx_mem {j : Nat} (h : fidx ws C n t = some j) : (n, t) ∈ olay ws C := List.mem_of_getElem? (idx_get h)
theorem fidx_inj {n' t' : String} {j : Nat} (h : fidx ws C n t = some j) (h' : fidx ws C n' t' = some j) : n = n' ∧ t = t' := by
  have := (idx_get h).symm.trans (idx_get h')
  simpa using this
theorem gfR_some {j : Nat} (h : gfR ws own i = some (C, j)) : ∃ n t, rFld ws own i = some (C, n, t) ∧ fidx ws C n t = some j := by
  unfold gfR at h
  split at h
  · rename_i C' n' t' q
    obtain ⟨j', h', e⟩ := Option.map_eq_some_iff.mp h
    cases e; exact ⟨_, _, q, h'⟩
  · cases h
theorem pfR_some {mn : String} {j : Nat} {ty : FieldType} (h : pfR ws own mn i = some (C, j, ty)) : ∃ n t, rFld ws own i = some (C, n, t) ∧ fidx ws C n t = some j ∧ parseFieldDescriptor t = some ty ∧
    (Jvm.Cond.lays C C n t ∈ ws ∨ (Jvm.Cond.laysFinal C C n t ∈ ws ∧ own = C ∧ mn = "<init>")) ∧ (∃ k, Jvm.Cond.instantiable C k ∈ ws) ∧ ∀ n' t', (n', t') ∈ olay ws C → n' ≠ n ∨ t' = t := by
  unfold pfR at h
  split at h
  · rename_i C' n' t' q
    split at h
    · rename_i j' ty' q1 q2
      split at h
      · rename_i g
        cases h
        simp only [Bool.and_eq_true, Bool.or_eq_true, beq_iff_eq, List.all_eq_true, bne_iff_ne, ne_eq] at g
        obtain ⟨⟨g1, g2⟩, g3⟩ := g
        obtain ⟨k, hk⟩ := Option.isSome_iff_exists.mp g2
        refine ⟨n', t', q, q1, q2, ?_, ⟨k, rInst_mem hk⟩, fun a b hab => g3 (a, b) hab⟩
        rcases g1 with g1 | ⟨⟨g1, g4⟩, g5⟩
        · exact Or.inl (hasLays_mem g1)
        · exact Or.inr ⟨hasLaysF_mem g1, g4, g5⟩
      · cases h
    · cases h
  · cases h
end Res
end Jvm.Own
namespace Jvm.Own
open Sem ClassFile Op Lib Jvm.Stand Jvm.Free Jvm.LawKit Jvm.RoadKit
/-! OWN 2: the abstract machine -/
abbrev XR := Option (Nat × List Slot × List Value)
def chk {α : Type} (a b : Nat) (x : Option α) : Option α := if a = b then x else none
def isI : Value → Bool | .int _ => true | _ => false
def isL : Value → Bool | .long _ => true | _ => false
def stl (ls : List Slot) (i : Nat) (v : Value) : Option (List Slot) := (storeLocals ls.toArray i v).map Array.toList
def ldV (p : Value → Bool) (nx i : Nat) (ls : List Slot) (st : List Value) : XR :=
  match ls[i]? with
  | some (.val v) => if p v = true then some (nx, ls, v :: st) else none
  | _ => none
def stV (p : Value → Bool) (nx i : Nat) (ls : List Slot) : List Value → XR
  | v :: r => if p v = true then (stl ls i v).map fun l' => (nx, l', r) else none
  | [] => none
def b2 (f : Int32 → Int32 → Int32) (nx : Nat) (ls : List Slot) : List Value → XR
  | .int y :: .int x :: r => some (nx, ls, .int (f x y) :: r)
  | _ => none
def d2 (f : Int32 → Int32 → Int32) (nx : Nat) (ls : List Slot) : List Value → XR
  | .int y :: .int x :: r => if y = 0 then none else some (nx, ls, .int (f x y) :: r)
  | _ => none
def u1 (f : Int32 → Int32) (nx : Nat) (ls : List Slot) : List Value → XR
  | .int x :: r => some (nx, ls, .int (f x) :: r)
  | _ => none
def l2 (f : Int64 → Int64 → Int64) (nx : Nat) (ls : List Slot) : List Value → XR
  | .long y :: .long x :: r => some (nx, ls, .long (f x y) :: r)
  | _ => none
def lsh (f : Int64 → Int32 → Int64) (nx : Nat) (ls : List Slot) : List Value → XR
  | .int y :: .long x :: r => some (nx, ls, .long (f x y) :: r)
  | _ => none
def jmp (pc : Nat) (o : Int) : Option Nat := if 0 ≤ (pc : Int) + o then some ((pc : Int) + o).toNat else none
def br (c : Bool) (pc : Nat) (o : Int) (ls : List Slot) (r : List Value) : XR :=
  if c = true then (jmp pc o).map fun q => (q, ls, r) else some (pc + 3, ls, r)
def sw (pc : Nat) (dflt low high : Int) (offs : Array Int) (ls : List Slot) : List Value → XR
  | .int i :: r => if i.toInt < low ∨ i.toInt > high then (jmp pc dflt).map fun q => (q, ls, r) else
      match offs[(i.toInt - low).toNat]? with
      | some o => (jmp pc o).map fun q => (q, ls, r)
      | none => none
  | _ => none
def xstep (ins : Instr) (len pc : Nat) (ls : List Slot) (st : List Value) : XR :=
  match ins with
  | .aload_n i => chk len 1 (ldV Value.isRef (pc + 1) i.val ls st)
  | .aload i => chk len 2 (ldV Value.isRef (pc + 2) i ls st)
  | .iload_n i => chk len 1 (ldV isI (pc + 1) i.val ls st)
  | .iload i => chk len 2 (ldV isI (pc + 2) i ls st)
  | .lload_n i => chk len 1 (ldV isL (pc + 1) i.val ls st)
  | .lload i => chk len 2 (ldV isL (pc + 2) i ls st)
  | .astore_n i => chk len 1 (stV Value.isRef (pc + 1) i.val ls st)
  | .astore i => chk len 2 (stV Value.isRef (pc + 2) i ls st)
  | .istore_n i => chk len 1 (stV isI (pc + 1) i.val ls st)
  | .istore i => chk len 2 (stV isI (pc + 2) i ls st)
  | .lstore_n i => chk len 1 (stV isL (pc + 1) i.val ls st)
  | .lstore i => chk len 2 (stV isL (pc + 2) i ls st)
  | .iconst i => chk len 1 (some (pc + 1, ls, .int (Int32.ofInt i) :: st))
  | .bipush i => chk len 2 (some (pc + 2, ls, .int (Int8.ofInt i).toInt32 :: st))
  | .sipush i => chk len 3 (some (pc + 3, ls, .int (Int16.ofInt i).toInt32 :: st))
  | .lconst i => chk len 1 (some (pc + 1, ls, .long (Int64.ofNat i) :: st))
  | .iadd => chk len 1 (b2 (fun x y => x + y) (pc + 1) ls st)
  | .isub => chk len 1 (b2 (fun x y => x - y) (pc + 1) ls st)
  | .imul => chk len 1 (b2 (fun x y => x * y) (pc + 1) ls st)
  | .iand => chk len 1 (b2 (fun x y => x &&& y) (pc + 1) ls st)
  | .ior => chk len 1 (b2 (fun x y => x ||| y) (pc + 1) ls st)
  | .ixor => chk len 1 (b2 (fun x y => x ^^^ y) (pc + 1) ls st)
  | .ishl => chk len 1 (b2 (fun x y => x <<< (y &&& 31)) (pc + 1) ls st)
  | .ishr => chk len 1 (b2 (fun x y => x >>> (y &&& 31)) (pc + 1) ls st)
  | .iushr => chk len 1 (b2 XT.ushr (pc + 1) ls st)
  | .idiv => chk len 1 (d2 (fun x y => x / y) (pc + 1) ls st)
  | .irem => chk len 1 (d2 (fun x y => x % y) (pc + 1) ls st)
  | .ineg => chk len 1 (u1 (fun x => -x) (pc + 1) ls st)
  | .i2b => chk len 1 (u1 (fun x => x.toInt8.toInt32) (pc + 1) ls st)
  | .i2c => chk len 1 (u1 (fun x => x.toUInt32.toUInt16.toUInt32.toInt32) (pc + 1) ls st)
  | .ladd => chk len 1 (l2 (fun x y => x + y) (pc + 1) ls st)
  | .lsub => chk len 1 (l2 (fun x y => x - y) (pc + 1) ls st)
  | .lmul => chk len 1 (l2 (fun x y => x * y) (pc + 1) ls st)
  | .land => chk len 1 (l2 (fun x y => x &&& y) (pc + 1) ls st)
  | .lor => chk len 1 (l2 (fun x y => x ||| y) (pc + 1) ls st)
  | .lxor => chk len 1 (l2 (fun x y => x ^^^ y) (pc + 1) ls st)
  | .lshl => chk len 1 (lsh (fun x y => x <<< (y.toInt64 &&& 63)) (pc + 1) ls st)
  | .lshr => chk len 1 (lsh (fun x y => x >>> (y.toInt64 &&& 63)) (pc + 1) ls st)
  | .lushr => chk len 1 (lsh XT.ushrL (pc + 1) ls st)
  | .lneg => chk len 1 (match st with | .long x :: r => some (pc + 1, ls, .long (-x) :: r) | _ => none)
  | .i2l => chk len 1 (match st with | .int x :: r => some (pc + 1, ls, .long x.toInt64 :: r) | _ => none)
  | .l2i => chk len 1 (match st with | .long x :: r => some (pc + 1, ls, .int x.toInt32 :: r) | _ => none)
  | .lcmp => chk len 1 (match st with | .long y :: .long x :: r => some (pc + 1, ls, .int (XT.cmpL x y) :: r) | _ => none)
  | .iinc i cst => chk len 3 (match ls[i]? with | some (.val (.int x)) => (stl ls i (.int (x + Int32.ofInt cst))).map fun l' => (pc + 3, l', st) | _ => none)
  | .dup => chk len 1 (match st with | x :: r => if x.category = 1 then some (pc + 1, ls, x :: x :: r) else none | _ => none)
  | .dup2 => chk len 1 (match st with
      | .long x :: r => some (pc + 1, ls, .long x :: .long x :: r)
      | x :: y :: r => if x.category = 1 ∧ y.category = 1 then some (pc + 1, ls, x :: y :: x :: y :: r) else none
      | _ => none)
  | .pop => chk len 1 (match st with | x :: r => if x.category = 1 then some (pc + 1, ls, r) else none | _ => none)
  | .goto o => chk len 3 ((jmp pc o).map fun q => (q, ls, st))
  | .ifCond cd o => chk len 3 (match st with | .int x :: r => br (ifCond.holds cd x) pc o ls r | _ => none)
  | .if_icmp cd o => chk len 3 (match st with | .int y :: .int x :: r => br (if_icmp.holds cd x y) pc o ls r | _ => none)
  | .tableswitch dflt low high offs => sw pc dflt low high offs ls st
  | _ => none
abbrev HR := Option (Nat × List Value × AHeap)
def putv : FieldType → Value → Option Value
  | .int, .int x => some (.int x)
  | .boolean, .int x => some (.int (nar .boolean x))
  | .byte, .int x => some (.int (nar .byte x))
  | .char, .int x => some (.int (nar .char x))
  | .short, .int x => some (.int (nar .short x))
  | .long, .long x => some (.long x)
  | .array _, .ref a => some (.ref a)
  | _, _ => none
def dflt (q : String × String) : Value := match parseFieldDescriptor q.2 with | some ty => defaultValue ty | none => .null
def hGet (ws : Ws) (own : String) (i pc : Nat) (H : AHeap) : List Value → HR
  | .ref a :: r =>
    match gfR ws own i, H[a]? with
    | some (C, j), some (.object C', vs) => if C = C' then (vs[j]?).map fun v => (pc + 3, v :: r, H) else none
    | _, _ => none
  | _ => none
def hPut (ws : Ws) (k : Nat) (own mn : String) (i pc : Nat) (H : AHeap) : List Value → HR
  | v :: .ref a :: r =>
    match pfR ws own mn i, H[a]? with
    | some (C, j, ty), some (.object C', vs) => if C = C' ∧ k ≤ a ∧ j < vs.length then (putv ty v).map fun v' => (pc + 3, r, H.set a (.object C', vs.set j v')) else none
    | _, _ => none
  | _ => none
def hNew (ws : Ws) (own : String) (i pc : Nat) (H : AHeap) (st : List Value) : HR :=
  match rCls ws own i with
  | some C => if (rInst ws C).isSome = true ∧ hasInit ws C = true then some (pc + 3, .ref H.length :: st, H ++ [(.object C, (olay ws C).map dflt)]) else none
  | none => none
def hNewA (ws : Ws) (aty : ArrayType) (pc : Nat) (H : AHeap) : List Value → HR
  | .int n :: r => if hasArr ws (newarray.typeOf aty) = true ∧ ¬ n < 0 ∧ n.toNatClampNeg * 8 ≤ 536870912 then
      some (pc + 2, .ref H.length :: r, H ++ [(.array (newarray.typeOf aty), List.replicate n.toNatClampNeg (defaultValue (newarray.typeOf aty)))]) else none
  | _ => none
def hLd (ok : FieldType → Bool) (pc : Nat) (H : AHeap) : List Value → HR
  | .int j :: .ref a :: r =>
    match H[a]? with
    | some (.array ty, vs) => if ok ty = true ∧ ¬ j < 0 then (vs[j.toNatClampNeg]?).map fun v => (pc + 1, v :: r, H) else none
    | _ => none
  | _ => none
def hSt (ok : FieldType → Bool) (k pc : Nat) (H : AHeap) : List Value → HR
  | v :: .int j :: .ref a :: r =>
    match H[a]? with
    | some (.array ty, vs) => if ok ty = true ∧ k ≤ a ∧ ¬ j < 0 ∧ j.toNatClampNeg < vs.length then (putv ty v).map fun v' => (pc + 1, r, H.set a (.array ty, vs.set j.toNatClampNeg v')) else none
    | _ => none
  | _ => none
def hLen (pc : Nat) (H : AHeap) : List Value → HR
  | .ref a :: r =>
    match H[a]? with
    | some (.array _, vs) => some (pc + 1, .int vs.length.toInt32 :: r, H)
    | _ => none
  | _ => none
def okT (t u : FieldType) : Bool := decide (u = t)
def okB (u : FieldType) : Bool := decide (u = .byte) || decide (u = .boolean)
def hstep (ws : Ws) (k : Nat) (y : MethodName) (ins : Instr) (len pc : Nat) (st : List Value) (H : AHeap) : HR :=
  match ins with
  | .getfield i => chk len 3 (hGet ws y.cls i pc H st)
  | .putfield i => chk len 3 (hPut ws k y.cls y.name i pc H st)
  | .new i => chk len 3 (hNew ws y.cls i pc H st)
  | .newarray aty => chk len 2 (hNewA ws aty pc H st)
  | .iaload => chk len 1 (hLd (okT .int) pc H st)
  | .caload => chk len 1 (hLd (okT .char) pc H st)
  | .laload => chk len 1 (hLd (okT .long) pc H st)
  | .baload => chk len 1 (hLd okB pc H st)
  | .iastore => chk len 1 (hSt (okT .int) k pc H st)
  | .castore => chk len 1 (hSt (okT .char) k pc H st)
  | .lastore => chk len 1 (hSt (okT .long) k pc H st)
  | .bastore => chk len 1 (hSt okB k pc H st)
  | .arraylength => chk len 1 (hLen pc H st)
  | .ldc i => chk len 2 ((rCon ws y.cls i).map fun v => (pc + 2, .int v :: st, H))
  | .ldc_w i => chk len 3 ((rCon ws y.cls i).map fun v => (pc + 3, .int v :: st, H))
  | .ldc2_w i => chk len 3 ((rConL ws y.cls i).map fun v => (pc + 3, .long v :: st, H))
  | _ => none
def ent : List Value → List Slot
  | [] => []
  | v :: r => if v.category = 2 then .val v :: .second :: ent r else .val v :: ent r
def entry (as : List Value) (mx : Nat) : List Slot := ent as ++ List.replicate (mx - (ent as).length) .unset
def wsum (st : List Value) : Nat := (st.map fun v => v.category).sum
abbrev Dn := List (MethodName × Nat × Nat)
def dnOf (dn : Dn) (y : MethodName) : Option (Nat × Nat) := dn.findSome? fun q => if q.1 = y then some q.2 else none
/-- what a methodref says: callee, its code, max_locals, return, number of parameters, slack for what lies under -/
def cR (ws : Ws) (dn : Dn) (y : MethodName) (i : Nat) : Option (MethodName × ByteArray × Nat × Option FieldType × Nat × Nat) :=
  match rMth ws y.cls i with
  | none => none
  | some y' =>
    match rCode ws y', dnOf dn y', dnOf dn y, parseMethodDescriptor y'.desc with
    | some (b, mx, r), some (f', l'), some (f, l), some sig =>
      if hasInit ws y'.cls = true ∧ Jvm.plainName y'.cls = true ∧ y'.cls ≠ "java/lang/invoke/MethodHandle" ∧ y'.cls ≠ "java/lang/invoke/VarHandle" ∧ f' + 1 ≤ f ∧ mx + 11 + l' ≤ l then
        some (y', b, mx, r, sig.parameters.length, l - (mx + 11 + l')) else none
    | _, _, _, _ => none
def sR (ws : Ws) (dn : Dn) (y : MethodName) (i : Nat) : Option (MethodName × ByteArray × Nat × Option FieldType × Nat × Nat) :=
  match cR ws dn y i with
  | some q => if hasStat ws q.1 = true then some q else none
  | none => none
def nR (ws : Ws) (dn : Dn) (y : MethodName) (i : Nat) : Option (MethodName × ByteArray × Nat × Option FieldType × Nat × Nat) :=
  match cR ws dn y i with
  | some q => if q.1.name = "<init>" ∧ hasIM ws q.1 = true ∧ q.2.2.2.1 = none then some q else none
  | none => none
/-- the first: is it private? -/
def vR (ws : Ws) (dn : Dn) (y : MethodName) (i : Nat) : Option (Bool × MethodName × ByteArray × Nat × Option FieldType × Nat × Nat) :=
  match cR ws dn y i with
  | some q => if hasIM ws q.1 = true then
      (if hasPriv ws q.1 = true ∧ (rInst ws q.1.cls).isSome = true then some (true, q) else if hasDecl ws q.1 = true ∧ hasSel ws q.1 = true then some (false, q) else none) else none
  | none => none
/-- Object.<init>: how many words may lie under it -/
def oR (ws : Ws) (dn : Dn) (y : MethodName) (i : Nat) : Option Nat :=
  match rMth ws y.cls i, rCode ws Lib.objectInit, dnOf dn y with
  | some y', some (b, mx, r), some (f, l) =>
    if y' = Lib.objectInit ∧ hasIM ws Lib.objectInit = true ∧ b.data = #[0xb1] ∧ mx = 1 ∧ r = none ∧ 1 ≤ f ∧ 12 ≤ l then some (l - 12) else none
  | _, _, _ => none
abbrev Call := MethodName × ByteArray × Option FieldType × List Slot × List Value
/-- returns and calls -/
def cstep (ws : Ws) (dn : Dn) (y : MethodName) (ret : Option FieldType) (ins : Instr) (len pc : Nat) (ls : List Slot) (st : List Value) (H : AHeap) : Option (Option Value ⊕ (Nat × List Slot × List Value × AHeap) ⊕ Call) :=
  match ins with
  | .ireturn => chk len 1 (match st, ret with
      | .int z :: _, some t => if t = .int ∨ t = .boolean ∨ t = .byte ∨ t = .char ∨ t = .short then some (.inl (some (.int (nar t z)))) else none
      | _, _ => none)
  | .lreturn => chk len 1 (match st, ret with
      | [.long z], some .long => some (.inl (some (.long z)))
      | _, _ => none)
  | .return_ => chk len 1 (match st, ret with
      | [], none => some (.inl none)
      | _, _ => none)
  | .invokestatic i => chk len 3 (match sR ws dn y i with
      | some (y', b, mx, r, na, sl) =>
        if na ≤ st.length ∧ wsum (st.drop na) ≤ sl ∧ (ent (st.take na).reverse).length ≤ mx then
          some (.inr (.inr (y', b, r, entry (st.take na).reverse mx, st.drop na)))
        else none
      | none => none)
  | .invokespecial i => chk len 3 (match oR ws dn y i with
      | some sl => (match st with
          | .ref _ :: r => if wsum r ≤ sl then some (.inr (.inl (pc + 3, ls, r, H))) else none
          | _ => none)
      | none => match nR ws dn y i with
        | some (y', b, mx, r, na, sl) =>
          (match st.drop na with
          | .ref a :: rest =>
            if wsum rest ≤ sl ∧ (ent (.ref a :: (st.take na).reverse)).length ≤ mx ∧ na ≤ st.length then
              some (.inr (.inr (y', b, r, entry (.ref a :: (st.take na).reverse) mx, rest)))
            else none
          | _ => none)
        | none => none)
  | .invokevirtual i => chk len 3 (match vR ws dn y i with
      | some (pv, y', b, mx, r, na, sl) =>
        (match st.drop na with
        | .ref a :: rest =>
          (match H[a]? with
          | some (.object C, _) =>
            if (pv = true ∨ C = y'.cls) ∧ wsum rest ≤ sl ∧ (ent (.ref a :: (st.take na).reverse)).length ≤ mx ∧ na ≤ st.length then
              some (.inr (.inr (y', b, r, entry (.ref a :: (st.take na).reverse) mx, rest)))
            else none
          | _ => none)
        | _ => none)
      | none => none)
  | _ => none
/-- what the machine does next: it returns, it steps, it calls -/
def act (ws : Ws) (dn : Dn) (k : Nat) (y : MethodName) (bytes : ByteArray) (ret : Option FieldType) (pc : Nat) (ls : List Slot) (st : List Value) (H : AHeap) : Option (Option Value ⊕ (Nat × List Slot × List Value × AHeap) ⊕ Call) :=
  match decode bytes pc with
  | .error _ => none
  | .ok (ins, len) =>
    match xstep ins len pc ls st with
    | some q => some (.inr (.inl (q.1, q.2.1, q.2.2, H)))
    | none => match hstep ws k y ins len pc st H with
      | some q => some (.inr (.inl (q.1, ls, q.2.1, q.2.2)))
      | none => cstep ws dn y ret ins len pc ls st H
def run (ws : Ws) (dn : Dn) (k : Nat) : Nat → MethodName → ByteArray → Option FieldType → Nat → List Slot → List Value → AHeap → Option (Option Value × AHeap)
  | 0, _, _, _, _, _, _, _ => none
  | n + 1, y, bytes, ret, pc, ls, st, H =>
    match act ws dn k y bytes ret pc ls st H with
    | none => none
    | some (.inl v) => some (v, H)
    | some (.inr (.inl (pc', ls', st', H'))) => run ws dn k n y bytes ret pc' ls' st' H'
    | some (.inr (.inr (y', b, r, en, rest))) =>
      match run ws dn k n y' b r 0 en [] H with
      | some (v, H1) => run ws dn k n y bytes ret (pc + 3) ls (v.toList ++ rest) H1
      | none => none
end Jvm.Own
namespace Jvm.Own
open Sem ClassFile Op Lib Jvm.Stand Jvm.Free Jvm.LawKit Jvm.RoadKit
/-! OWN 3: the abstract machine's plain steps are the machine's -/
def ren (f : Nat → Nat) : Value → Value
  | .ref a => .ref (f a)
  | v => v
def renS (f : Nat → Nat) : Slot → Slot
  | .val v => .val (ren f v)
  | s => s
abbrev fr (f : Nat → Nat) (m : MethodId) (pc : Nat) (ls : List Slot) (st : List Value) : JFrame := mkF m pc (ls.map (renS f)).toArray (st.map (ren f))
theorem ren_cat (f : Nat → Nat) (v : Value) : (ren f v).category = v.category := by cases v <;> rfl
theorem ren_isRef (f : Nat → Nat) (v : Value) : (ren f v).isRef = v.isRef := by cases v <;> rfl
theorem isI_int {v : Value} (h : isI v = true) : ∃ x, v = .int x := by cases v <;> first | exact ⟨_, rfl⟩ | cases h
theorem isL_long {v : Value} (h : isL v = true) : ∃ x, v = .long x := by cases v <;> first | exact ⟨_, rfl⟩ | cases h
theorem chk_some {α : Type} {a b : Nat} {x : Option α} {r : α} (h : chk a b x = some r) : a = b ∧ x = some r := by
  unfold chk at h
  split at h
  · exact ⟨by assumption, h⟩
  · cases h
theorem loc_get {f : Nat → Nat} {ls : List Slot} {i : Nat} {s : Slot} (h : ls[i]? = some s) : ((ls.map (renS f)).toArray)[i]? = some (renS f s) := by
  rw [List.getElem?_toArray, List.getElem?_map, h]; rfl
theorem setAt_ren (f : Nat → Nat) (l : Array Slot) (i : Nat) (x : Slot) : setAt (l.map (renS f)) i (renS f x) = (setAt l i x).map fun a => a.map (renS f) := by
  unfold setAt
  rw [Array.size_map]
  split
  · rw [Option.map_some, Array.map_setIfInBounds]
  · rfl
theorem storeSelf_ren (f : Nat → Nat) (l : Array Slot) (i : Nat) (v : Value) : storeSelf (l.map (renS f)) i (ren f v) = (storeSelf l i v).map fun a => a.map (renS f) := by
  have h0 : setAt (l.map (renS f)) i (.val (ren f v)) = _ := setAt_ren f l i (.val v)
  simp only [storeSelf, h0, ren_cat]
  cases setAt l i (.val v) with
  | none => rfl
  | some l1 =>
    simp only [Option.map_some, Option.bind_eq_bind, Option.bind_some, bind_pure_comp]
    split
    · rw [Array.getElem?_map]
      cases l1[i + 1]? with
      | none => rfl
      | some s =>
        simp only [Option.map_some, Option.bind_some]
        cases s with
        | unset => exact setAt_ren f l1 (i + 1) .second
        | second => exact setAt_ren f l1 (i + 1) .second
        | val w =>
          simp only [renS, ren_cat]
          split
          · have h1 : setAt (l1.map (renS f)) (i + 2) .unset = _ := setAt_ren f l1 (i + 2) .unset
            rw [h1]
            cases setAt l1 (i + 2) .unset with
            | none => rfl
            | some l2 => exact setAt_ren f l2 (i + 1) .second
          · exact setAt_ren f l1 (i + 1) .second
    · rfl
theorem storeLocals_ren (f : Nat → Nat) (l : Array Slot) (i : Nat) (v : Value) : storeLocals (l.map (renS f)) i (ren f v) = (storeLocals l i v).map fun a => a.map (renS f) := by
  simp only [storeLocals, Array.getElem?_map]
  cases l[i]? with
  | none => rfl
  | some s =>
    simp only [Option.map_some, Option.bind_eq_bind, Option.bind_some]
    cases s with
    | unset => exact storeSelf_ren f l i v
    | second =>
      have h1 : setAt (l.map (renS f)) (i - 1) .unset = _ := setAt_ren f l (i - 1) .unset
      simp only [renS, h1]
      cases setAt l (i - 1) .unset with
      | none => rfl
      | some l2 => exact storeSelf_ren f l2 i v
    | val w =>
      simp only [renS, ren_cat]
      split
      · have h1 : setAt (l.map (renS f)) (i + 1) .unset = _ := setAt_ren f l (i + 1) .unset
        rw [h1]
        cases setAt l (i + 1) .unset with
        | none => rfl
        | some l2 => exact storeSelf_ren f l2 i v
      · exact storeSelf_ren f l i v
theorem stl_ren {f : Nat → Nat} {ls l' : List Slot} {i : Nat} {v : Value} (h : stl ls i v = some l') : storeLocals (ls.map (renS f)).toArray i (ren f v) = some (l'.map (renS f)).toArray := by
  unfold stl at h
  obtain ⟨a, ha, rfl⟩ := Option.map_eq_some_iff.mp h
  have := storeLocals_ren f ls.toArray i v
  rw [ha] at this
  rw [← List.map_toArray, this]
  simp [← Array.toList_inj]
theorem setAt_size {l l' : Array Slot} {i : Nat} {x : Slot} (h : setAt l i x = some l') : l'.size = l.size := by
  unfold setAt at h
  split at h
  · cases h; simp
  · cases h
theorem storeSelf_size {l l' : Array Slot} {i : Nat} {v : Value} (h : storeSelf l i v = some l') : l'.size = l.size := by
  simp only [storeSelf, Option.bind_eq_bind, Option.bind_eq_some_iff] at h
  obtain ⟨l1, h1, h⟩ := h
  have e1 := setAt_size h1
  split at h
  · obtain ⟨s, -, h⟩ := Option.bind_eq_some_iff.mp h
    split at h
    · split at h
      · obtain ⟨l2, h2, h⟩ := Option.bind_eq_some_iff.mp h
        rw [setAt_size h, setAt_size h2, e1]
      · rw [setAt_size h, e1]
    · rw [setAt_size h, e1]
  · cases h; exact e1
theorem storeLocals_size {l l' : Array Slot} {i : Nat} {v : Value} (h : storeLocals l i v = some l') : l'.size = l.size := by
  simp only [storeLocals, Option.bind_eq_bind, Option.bind_eq_some_iff] at h
  obtain ⟨s, -, h⟩ := h
  split at h
  · obtain ⟨l2, h2, h⟩ := Option.bind_eq_some_iff.mp h
    rw [storeSelf_size h, setAt_size h2]
  · split at h
    · obtain ⟨l2, h2, h⟩ := Option.bind_eq_some_iff.mp h
      rw [storeSelf_size h, setAt_size h2]
    · exact storeSelf_size h
  · exact storeSelf_size h
theorem stl_size {ls l' : List Slot} {i : Nat} {v : Value} (h : stl ls i v = some l') : l'.length = ls.length := by
  unfold stl at h
  obtain ⟨a, ha, rfl⟩ := Option.map_eq_some_iff.mp h
  have := storeLocals_size ha
  simpa using this
theorem ldV_some {p : Value → Bool} {nx i : Nat} {ls : List Slot} {st : List Value} {q : Nat × List Slot × List Value} (h : ldV p nx i ls st = some q) : ∃ v, ls[i]? = some (.val v) ∧ p v = true ∧ q = (nx, ls, v :: st) := by
  unfold ldV at h
  split at h
  · rename_i v hv
    split at h
    · cases h; exact ⟨v, hv, by assumption, rfl⟩
    · cases h
  · cases h
theorem stV_some {p : Value → Bool} {nx i : Nat} {ls : List Slot} {st : List Value} {q : Nat × List Slot × List Value} (h : stV p nx i ls st = some q) : ∃ v r l', st = v :: r ∧ p v = true ∧ stl ls i v = some l' ∧ q = (nx, l', r) := by
  unfold stV at h
  split at h
  · split at h
    · obtain ⟨l', h1, h2⟩ := Option.map_eq_some_iff.mp h
      exact ⟨_, _, l', rfl, by assumption, h1, h2.symm⟩
    · cases h
  · cases h
theorem b2_some {f : Int32 → Int32 → Int32} {nx : Nat} {ls : List Slot} {st : List Value} {q : Nat × List Slot × List Value} (h : b2 f nx ls st = some q) : ∃ x y r, st = .int y :: .int x :: r ∧ q = (nx, ls, .int (f x y) :: r) := by
  unfold b2 at h
  split at h
  · cases h; exact ⟨_, _, _, rfl, rfl⟩
  · cases h
theorem d2_some {f : Int32 → Int32 → Int32} {nx : Nat} {ls : List Slot} {st : List Value} {q : Nat × List Slot × List Value} (h : d2 f nx ls st = some q) : ∃ x y r, st = .int y :: .int x :: r ∧ y ≠ 0 ∧ q = (nx, ls, .int (f x y) :: r) := by
  unfold d2 at h
  split at h
  · split at h
    · cases h
    · cases h; exact ⟨_, _, _, rfl, by assumption, rfl⟩
  · cases h
theorem u1_some {f : Int32 → Int32} {nx : Nat} {ls : List Slot} {st : List Value} {q : Nat × List Slot × List Value} (h : u1 f nx ls st = some q) : ∃ x r, st = .int x :: r ∧ q = (nx, ls, .int (f x) :: r) := by
  unfold u1 at h
  split at h
  · cases h; exact ⟨_, _, rfl, rfl⟩
  · cases h
theorem l2_some {f : Int64 → Int64 → Int64} {nx : Nat} {ls : List Slot} {st : List Value} {q : Nat × List Slot × List Value} (h : l2 f nx ls st = some q) : ∃ x y r, st = .long y :: .long x :: r ∧ q = (nx, ls, .long (f x y) :: r) := by
  unfold l2 at h
  split at h
  · cases h; exact ⟨_, _, _, rfl, rfl⟩
  · cases h
theorem lsh_some {f : Int64 → Int32 → Int64} {nx : Nat} {ls : List Slot} {st : List Value} {q : Nat × List Slot × List Value} (h : lsh f nx ls st = some q) : ∃ x y r, st = .int y :: .long x :: r ∧ q = (nx, ls, .long (f x y) :: r) := by
  unfold lsh at h
  split at h
  · cases h; exact ⟨_, _, _, rfl, rfl⟩
  · cases h
theorem jmp_some {pc q : Nat} {o : Int} (h : jmp pc o = some q) : 0 ≤ (pc : Int) + o ∧ ((pc : Int) + o).toNat = q := by
  unfold jmp at h
  split at h
  · cases h; exact ⟨by assumption, rfl⟩
  · cases h
theorem br_some {c : Bool} {pc : Nat} {o : Int} {ls : List Slot} {r : List Value} {q : Nat × List Slot × List Value} (h : br c pc o ls r = some q) : (c = true ∧ ∃ t, 0 ≤ (pc : Int) + o ∧ ((pc : Int) + o).toNat = t ∧ q = (t, ls, r)) ∨ (c = false ∧ q = (pc + 3, ls, r)) := by
  unfold br at h
  split at h
  · obtain ⟨t, h1, h2⟩ := Option.map_eq_some_iff.mp h
    obtain ⟨h3, h4⟩ := jmp_some h1
    exact Or.inl ⟨by assumption, t, h3, h4, h2.symm⟩
  · rename_i hc; cases h; exact Or.inr ⟨by simpa using hc, rfl⟩
section X
variable {tb : Tables} [Ours tb] {e : Env} {below : List Frame} {T target : State} {m : MethodId} {c : Code}
set_option maxHeartbeats 4000000 in
theorem xstep_sound (h : At T m c below) (hx : tb.exec = Jvm.exec) (f : Nat → Nat) {ins : Instr} {len pc : Nat} {ls : List Slot} {st : List Value} {q : Nat × List Slot × List Value}
    (hd : decode c.code pc = .ok (ins, len)) (hs : xstep ins len pc ls st = some q) (hr : Steps tb e below (T.setTop (fr f m q.1 q.2.1 q.2.2)) target) : Steps tb e below (T.setTop (fr f m pc ls st)) target := by
  unfold xstep at hs
  split at hs
  · obtain ⟨rfl, hs⟩ := chk_some hs; obtain ⟨v, h1, h2, rfl⟩ := ldV_some hs
    exact XS.aloadN h hx rfl hd (loc_get h1) (by rw [ren_isRef]; exact h2) hr
  · obtain ⟨rfl, hs⟩ := chk_some hs; obtain ⟨v, h1, h2, rfl⟩ := ldV_some hs
    exact XS.aload h hx rfl hd (loc_get h1) (by rw [ren_isRef]; exact h2) hr
  · obtain ⟨rfl, hs⟩ := chk_some hs; obtain ⟨v, h1, h2, rfl⟩ := ldV_some hs; obtain ⟨x, rfl⟩ := isI_int h2
    exact XS.iloadN h hx rfl hd (loc_get (f := f) h1) hr
  · obtain ⟨rfl, hs⟩ := chk_some hs; obtain ⟨v, h1, h2, rfl⟩ := ldV_some hs; obtain ⟨x, rfl⟩ := isI_int h2
    exact XS.iload h hx rfl hd (loc_get (f := f) h1) hr
  · obtain ⟨rfl, hs⟩ := chk_some hs; obtain ⟨v, h1, h2, rfl⟩ := ldV_some hs; obtain ⟨x, rfl⟩ := isL_long h2
    exact XT.lloadN h hx rfl hd (loc_get (f := f) h1) hr
  · obtain ⟨rfl, hs⟩ := chk_some hs; obtain ⟨v, h1, h2, rfl⟩ := ldV_some hs; obtain ⟨x, rfl⟩ := isL_long h2
    exact XT.lload h hx rfl hd (loc_get (f := f) h1) hr
  · obtain ⟨rfl, hs⟩ := chk_some hs; obtain ⟨v, r, l', rfl, h2, h3, rfl⟩ := stV_some hs
    exact XS.astoreN h hx rfl hd rfl (by rw [ren_isRef]; exact h2) (stl_ren h3) hr
  · obtain ⟨rfl, hs⟩ := chk_some hs; obtain ⟨v, r, l', rfl, h2, h3, rfl⟩ := stV_some hs
    exact XS.astore h hx rfl hd rfl (by rw [ren_isRef]; exact h2) (stl_ren h3) hr
  · obtain ⟨rfl, hs⟩ := chk_some hs; obtain ⟨v, r, l', rfl, h2, h3, rfl⟩ := stV_some hs; obtain ⟨x, rfl⟩ := isI_int h2
    exact XS.istoreN h hx rfl hd rfl (stl_ren (f := f) h3) hr
  · obtain ⟨rfl, hs⟩ := chk_some hs; obtain ⟨v, r, l', rfl, h2, h3, rfl⟩ := stV_some hs; obtain ⟨x, rfl⟩ := isI_int h2
    exact XS.istore h hx rfl hd rfl (stl_ren (f := f) h3) hr
  · obtain ⟨rfl, hs⟩ := chk_some hs; obtain ⟨v, r, l', rfl, h2, h3, rfl⟩ := stV_some hs; obtain ⟨x, rfl⟩ := isL_long h2
    exact XT.lstoreN h hx rfl hd rfl (stl_ren (f := f) h3) hr
  · obtain ⟨rfl, hs⟩ := chk_some hs; obtain ⟨v, r, l', rfl, h2, h3, rfl⟩ := stV_some hs; obtain ⟨x, rfl⟩ := isL_long h2
    exact XT.lstore h hx rfl hd rfl (stl_ren (f := f) h3) hr
  · obtain ⟨rfl, hs⟩ := chk_some hs; cases hs
    exact XS.iconst h hx rfl hd hr
  · obtain ⟨rfl, hs⟩ := chk_some hs; cases hs
    exact XS.bipush h hx rfl hd hr
  · obtain ⟨rfl, hs⟩ := chk_some hs; cases hs
    exact XS.sipush h hx rfl hd hr
  · obtain ⟨rfl, hs⟩ := chk_some hs; cases hs
    exact XT.lconst h hx rfl hd hr
  · obtain ⟨rfl, hs⟩ := chk_some hs; obtain ⟨x, y, r, rfl, rfl⟩ := b2_some hs
    exact XS.iadd h hx rfl hd rfl hr
  · obtain ⟨rfl, hs⟩ := chk_some hs; obtain ⟨x, y, r, rfl, rfl⟩ := b2_some hs
    exact XS.isub h hx rfl hd rfl hr
  · obtain ⟨rfl, hs⟩ := chk_some hs; obtain ⟨x, y, r, rfl, rfl⟩ := b2_some hs
    exact XS.imul h hx rfl hd rfl hr
  · obtain ⟨rfl, hs⟩ := chk_some hs; obtain ⟨x, y, r, rfl, rfl⟩ := b2_some hs
    exact XS.iand h hx rfl hd rfl hr
  · obtain ⟨rfl, hs⟩ := chk_some hs; obtain ⟨x, y, r, rfl, rfl⟩ := b2_some hs
    exact XT.ior h hx rfl hd rfl hr
  · obtain ⟨rfl, hs⟩ := chk_some hs; obtain ⟨x, y, r, rfl, rfl⟩ := b2_some hs
    exact XT.ixor h hx rfl hd rfl hr
  · obtain ⟨rfl, hs⟩ := chk_some hs; obtain ⟨x, y, r, rfl, rfl⟩ := b2_some hs
    exact XT.ishl h hx rfl hd rfl hr
  · obtain ⟨rfl, hs⟩ := chk_some hs; obtain ⟨x, y, r, rfl, rfl⟩ := b2_some hs
    exact XT.ishr h hx rfl hd rfl hr
  · obtain ⟨rfl, hs⟩ := chk_some hs; obtain ⟨x, y, r, rfl, rfl⟩ := b2_some hs
    exact XT.iushr h hx rfl hd rfl hr
  · obtain ⟨rfl, hs⟩ := chk_some hs; obtain ⟨x, y, r, rfl, h2, rfl⟩ := d2_some hs
    exact XS.idiv h hx rfl hd rfl h2 hr
  · obtain ⟨rfl, hs⟩ := chk_some hs; obtain ⟨x, y, r, rfl, h2, rfl⟩ := d2_some hs
    refine XS.irem h hx rfl hd rfl h2 ?_
    have q : x - x / y * y = x % y := irem_eq_mod x y
    rw [q]; exact hr
  · obtain ⟨rfl, hs⟩ := chk_some hs; obtain ⟨x, r, rfl, rfl⟩ := u1_some hs
    exact XS.ineg h hx rfl hd rfl hr
  · obtain ⟨rfl, hs⟩ := chk_some hs; obtain ⟨x, r, rfl, rfl⟩ := u1_some hs
    exact XT.i2b h hx rfl hd rfl hr
  · obtain ⟨rfl, hs⟩ := chk_some hs; obtain ⟨x, r, rfl, rfl⟩ := u1_some hs
    exact XT.i2c h hx rfl hd rfl hr
  · obtain ⟨rfl, hs⟩ := chk_some hs; obtain ⟨x, y, r, rfl, rfl⟩ := l2_some hs
    exact XT.ladd h hx rfl hd rfl hr
  · obtain ⟨rfl, hs⟩ := chk_some hs; obtain ⟨x, y, r, rfl, rfl⟩ := l2_some hs
    exact XT.lsub h hx rfl hd rfl hr
  · obtain ⟨rfl, hs⟩ := chk_some hs; obtain ⟨x, y, r, rfl, rfl⟩ := l2_some hs
    exact XT.lmul h hx rfl hd rfl hr
  · obtain ⟨rfl, hs⟩ := chk_some hs; obtain ⟨x, y, r, rfl, rfl⟩ := l2_some hs
    exact XT.land h hx rfl hd rfl hr
  · obtain ⟨rfl, hs⟩ := chk_some hs; obtain ⟨x, y, r, rfl, rfl⟩ := l2_some hs
    exact XT.lor h hx rfl hd rfl hr
  · obtain ⟨rfl, hs⟩ := chk_some hs; obtain ⟨x, y, r, rfl, rfl⟩ := l2_some hs
    exact XT.lxor h hx rfl hd rfl hr
  · obtain ⟨rfl, hs⟩ := chk_some hs; obtain ⟨x, y, r, rfl, rfl⟩ := lsh_some hs
    exact XT.lshl h hx rfl hd rfl hr
  · obtain ⟨rfl, hs⟩ := chk_some hs; obtain ⟨x, y, r, rfl, rfl⟩ := lsh_some hs
    exact XT.lshr h hx rfl hd rfl hr
  · obtain ⟨rfl, hs⟩ := chk_some hs; obtain ⟨x, y, r, rfl, rfl⟩ := lsh_some hs
    exact XT.lushr h hx rfl hd rfl hr
  · obtain ⟨rfl, hs⟩ := chk_some hs
    split at hs
    · cases hs; exact XT.lneg h hx rfl hd rfl hr
    · cases hs
  · obtain ⟨rfl, hs⟩ := chk_some hs
    split at hs
    · cases hs; exact XT.i2l h hx rfl hd rfl hr
    · cases hs
  · obtain ⟨rfl, hs⟩ := chk_some hs
    split at hs
    · cases hs; exact XT.l2i h hx rfl hd rfl hr
    · cases hs
  · obtain ⟨rfl, hs⟩ := chk_some hs
    split at hs
    · cases hs; exact XT.lcmp h hx rfl hd rfl hr
    · cases hs
  · obtain ⟨rfl, hs⟩ := chk_some hs
    split at hs
    · rename_i x h1
      obtain ⟨l', h2, rfl⟩ := Option.map_eq_some_iff.mp hs
      exact XS.iinc h hx rfl hd (loc_get (f := f) h1) (stl_ren (f := f) h2) hr
    · cases hs
  · obtain ⟨rfl, hs⟩ := chk_some hs
    split at hs
    · split at hs
      · rename_i hc; cases hs; exact XS.dup h hx rfl hd rfl (by rw [ren_cat]; exact hc) hr
      · cases hs
    · cases hs
  · obtain ⟨rfl, hs⟩ := chk_some hs
    split at hs
    · cases hs; exact XT.dup2L h hx rfl hd rfl hr
    · split at hs
      · rename_i hc; cases hs; exact XT.dup2 h hx rfl hd rfl (by rw [ren_cat]; exact hc.1) (by rw [ren_cat]; exact hc.2) hr
      · cases hs
    · cases hs
  · obtain ⟨rfl, hs⟩ := chk_some hs
    split at hs
    · split at hs
      · rename_i hc; cases hs; exact XT.pop h hx rfl hd rfl (by rw [ren_cat]; exact hc) hr
      · cases hs
    · cases hs
  · obtain ⟨rfl, hs⟩ := chk_some hs
    obtain ⟨t, h1, rfl⟩ := Option.map_eq_some_iff.mp hs
    obtain ⟨h2, h3⟩ := jmp_some h1
    exact XS.goto h hx rfl rfl hd h2 h3 hr
  · obtain ⟨rfl, hs⟩ := chk_some hs
    split at hs
    · rcases br_some hs with ⟨hc, t, h1, h2, rfl⟩ | ⟨hc, rfl⟩
      · exact XS.ifYes h hx rfl rfl hd rfl hc h1 h2 hr
      · exact XS.ifNo h hx rfl hd rfl hc hr
    · cases hs
  · obtain ⟨rfl, hs⟩ := chk_some hs
    split at hs
    · rcases br_some hs with ⟨hc, t, h1, h2, rfl⟩ | ⟨hc, rfl⟩
      · exact XS.icmpYes h hx rfl rfl hd rfl hc h1 h2 hr
      · exact XS.icmpNo h hx rfl hd rfl hc hr
    · cases hs
  · unfold sw at hs
    split at hs
    · split at hs
      · rename_i hc
        obtain ⟨t, h1, rfl⟩ := Option.map_eq_some_iff.mp hs
        obtain ⟨h2, h3⟩ := jmp_some h1
        exact XS.tswOut h hx rfl rfl hd rfl hc h2 h3 hr
      · rename_i hc
        split at hs
        · rename_i o ho
          obtain ⟨t, h1, rfl⟩ := Option.map_eq_some_iff.mp hs
          obtain ⟨h2, h3⟩ := jmp_some h1
          exact XS.tswIn h hx rfl rfl hd rfl hc ho h2 h3 hr
        · cases hs
    · cases hs
  · cases hs
end X
theorem xstep_size {ins : Instr} {len pc : Nat} {ls : List Slot} {st : List Value} {q : Nat × List Slot × List Value} (hs : xstep ins len pc ls st = some q) : q.2.1.length = ls.length := by
  unfold xstep at hs
  split at hs
  all_goals first
    | (obtain ⟨rfl, hs⟩ := chk_some hs; obtain ⟨v, h1, h2, rfl⟩ := ldV_some hs; rfl)
    | (obtain ⟨rfl, hs⟩ := chk_some hs; obtain ⟨v, r, l', rfl, h2, h3, rfl⟩ := stV_some hs; exact stl_size h3)
    | (obtain ⟨rfl, hs⟩ := chk_some hs; cases hs; rfl)
    | (obtain ⟨rfl, hs⟩ := chk_some hs; obtain ⟨x, y, r, rfl, rfl⟩ := b2_some hs; rfl)
    | (obtain ⟨rfl, hs⟩ := chk_some hs; obtain ⟨x, y, r, rfl, h2, rfl⟩ := d2_some hs; rfl)
    | (obtain ⟨rfl, hs⟩ := chk_some hs; obtain ⟨x, r, rfl, rfl⟩ := u1_some hs; rfl)
    | (obtain ⟨rfl, hs⟩ := chk_some hs; obtain ⟨x, y, r, rfl, rfl⟩ := l2_some hs; rfl)
    | (obtain ⟨rfl, hs⟩ := chk_some hs; obtain ⟨x, y, r, rfl, rfl⟩ := lsh_some hs; rfl)
    | (obtain ⟨rfl, hs⟩ := chk_some hs; split at hs <;> first | (cases hs; rfl) | (cases hs; done))
    | (obtain ⟨rfl, hs⟩ := chk_some hs; split at hs <;> first | (obtain ⟨l', h2, rfl⟩ := Option.map_eq_some_iff.mp hs; exact stl_size h2) | (cases hs; done))
    | (obtain ⟨rfl, hs⟩ := chk_some hs; split at hs <;> first | (split at hs <;> first | (cases hs; rfl) | (cases hs; done)) | (cases hs; rfl) | (cases hs; done))
    | (obtain ⟨rfl, hs⟩ := chk_some hs; obtain ⟨t, h1, rfl⟩ := Option.map_eq_some_iff.mp hs; rfl)
    | (obtain ⟨rfl, hs⟩ := chk_some hs; split at hs <;> first | (rcases br_some hs with ⟨hc, t, h1, h2, rfl⟩ | ⟨hc, rfl⟩ <;> rfl) | (cases hs; done))
    | (unfold sw at hs; split at hs <;> first | (cases hs; done) | (split at hs <;> first | (obtain ⟨t, h1, rfl⟩ := Option.map_eq_some_iff.mp hs; rfl) | (split at hs <;> first | (obtain ⟨t, h1, rfl⟩ := Option.map_eq_some_iff.mp hs; rfl) | (cases hs; done))))
    | (cases hs; done)
end Jvm.Own
namespace Jvm.Own
open Sem ClassFile Op Lib Jvm.Stand Jvm.Free Jvm.LawKit Jvm.RoadKit
/-! OWN 4: the heap's steps -/
def adr (k sa n0 i : Nat) : Nat := if i < k then sa else n0 + (i - k)
def SimO (Z : State) (ws : Ws) (f : Nat → Nat) (h : Heap) (a : Addr) : FieldType × List Value → Prop
  | (.object C, vs) => Exa Z h a C ∧ ∀ n t j, fidx ws C n t = some j → ∃ v, vs[j]? = some v ∧ Fld Z h a C n t (ren f v)
  | (.array ty, vs) => ∃ c : Cell, Arr Z h a c ty ∧ c.slots = (vs.map (ren f)).toArray
  | _ => False
def Sim (Z : State) (ws : Ws) (k sa n0 : Nat) (H : AHeap) (h : Heap) : Prop :=
  h.size = n0 + (H.length - k) ∧ k ≤ H.length ∧ k ≤ 1 ∧ (1 ≤ k → sa < n0) ∧ ∀ i o, H[i]? = some o → SimO Z ws (adr k sa n0) h (adr k sa n0 i) o
def cost (ws : Ws) : FieldType × List Value → Nat
  | (.object C, _) => (rInst ws C).getD 0
  | (_, vs) => vs.length
def tot (ws : Ws) (H : AHeap) : Nat := (H.map (cost ws)).sum
theorem adr_inj {k sa n0 i j : Nat} (hk : k ≤ 1) (hs : 1 ≤ k → sa < n0) (e : adr k sa n0 i = adr k sa n0 j) : i = j := by
  unfold adr at e; split at e <;> split at e <;> omega
theorem adr_ge {k sa n0 a : Nat} (h : k ≤ a) : n0 ≤ adr k sa n0 a := by
  unfold adr; rw [if_neg (by omega)]; omega
theorem tot_app (ws : Ws) (H : AHeap) (o : FieldType × List Value) : tot ws (H ++ [o]) = tot ws H + cost ws o := by simp [tot]
theorem tot_set {ws : Ws} : ∀ {H : AHeap} {a : Nat} {o o' : FieldType × List Value}, H[a]? = some o → cost ws o' = cost ws o → tot ws (H.set a o') = tot ws H
  | [], _, _, _, h, _ => by cases h
  | x :: r, 0, o, o', h, e => by
    simp only [List.getElem?_cons_zero, Option.some.injEq] at h; subst h
    simp [tot, e]
  | x :: r, a + 1, o, o', h, e => by
    have := tot_set (ws := ws) (H := r) (a := a) (o := o) (o' := o') (by simpa using h) e
    simp only [tot, List.set_cons_succ, List.map_cons, List.sum_cons] at this ⊢
    rw [this]
theorem ren_dflt (f : Nat → Nat) (ty : FieldType) : ren f (defaultValue ty) = defaultValue ty := by cases ty <;> rfl
section Facts
variable {Z : State} {ws : Ws} {f : Nat → Nat} {h h' : Heap} {a b : Addr} {o : FieldType × List Value} {sl : Nat} {v : Value}
theorem SimO.ext (E : Ext h h') (S : SimO Z ws f h a o) : SimO Z ws f h' a o := by
  unfold SimO at S ⊢
  split at S
  · exact ⟨S.1.ext E, fun n t j q => by obtain ⟨v, h1, h2⟩ := S.2 n t j q; exact ⟨v, h1, h2.ext E⟩⟩
  · obtain ⟨c, h1, h2⟩ := S; exact ⟨c, h1.ext E, h2⟩
  · exact S.elim
theorem SimO.other (W : Wr h h' b sl v) (ne : a ≠ b) (S : SimO Z ws f h a o) : SimO Z ws f h' a o := by
  unfold SimO at S ⊢
  split at S
  · exact ⟨S.1.wr W, fun n t j q => by obtain ⟨v, h1, h2⟩ := S.2 n t j q; exact ⟨v, h1, h2.other W (Or.inl ne)⟩⟩
  · obtain ⟨c, h1, h2⟩ := S; exact ⟨c, h1.other W ne, h2⟩
  · exact S.elim
theorem Sim.push {k sa n0 : Nat} {H : AHeap} (S : Sim Z ws k sa n0 H h) (E : Ext h h') (hz : h'.size = h.size + 1) (O : SimO Z ws (adr k sa n0) h' h.size o) : Sim Z ws k sa n0 (H ++ [o]) h' := by
  obtain ⟨h1, h2, h3, h4, h5⟩ := S
  refine ⟨by rw [hz, h1, List.length_append, List.length_singleton]; omega, by rw [List.length_append]; omega, h3, h4, fun i o' q => ?_⟩
  rcases Nat.lt_trichotomy i H.length with g | g | g
  · rw [List.getElem?_append_left g] at q; exact (h5 i o' q).ext E
  · subst g
    rw [List.getElem?_append_right (Nat.le_refl _), Nat.sub_self] at q
    cases q
    have e : adr k sa n0 H.length = h.size := by unfold adr; rw [if_neg (by omega), h1]
    rw [e]; exact O
  · rw [List.getElem?_eq_none (by simp; omega)] at q; cases q
theorem Sim.next {k sa n0 : Nat} {H : AHeap} (S : Sim Z ws k sa n0 H h) : h.size = adr k sa n0 H.length := by
  obtain ⟨h1, h2, -⟩ := S
  unfold adr; rw [if_neg (by omega), h1]
theorem Wr.upd {k sa n0 i : Nat} {H : AHeap} {o' : FieldType × List Value} (S : Sim Z ws k sa n0 H h) (W : Wr h h' (adr k sa n0 i) sl v) (O : SimO Z ws (adr k sa n0) h' (adr k sa n0 i) o') : Sim Z ws k sa n0 (H.set i o') h' := by
  obtain ⟨h1, h2, h3, h4, h5⟩ := S
  refine ⟨by rw [W.size, h1, List.length_set], by rw [List.length_set]; exact h2, h3, h4, fun j q hq => ?_⟩
  by_cases e : i = j
  · subst e
    rw [List.getElem?_set_self' ] at hq
    cases hi : H[i]? with
    | none => rw [hi] at hq; cases hq
    | some x => rw [hi] at hq; cases hq; exact O
  · rw [List.getElem?_set_ne e] at hq
    exact (h5 j q hq).other W fun g => e (adr_inj h3 h4 g).symm
end Facts
theorem putv_ok {ty : FieldType} {v v' : Value} (f : Nat → Nat) (h : putv ty v = some v') : narrow ty (ren f v) = ren f v' ∧ fits ty (ren f v') = true := by
  unfold putv at h
  split at h
  · cases h; exact ⟨rfl, rfl⟩
  · cases h; exact ⟨rfl, fits_nar_bool _⟩
  · cases h; exact ⟨rfl, fits_nar_byte _⟩
  · cases h; exact ⟨rfl, fits_nar_char _⟩
  · cases h; exact ⟨rfl, fits_nar_short _⟩
  · cases h; exact ⟨rfl, rfl⟩
  · cases h; exact ⟨rfl, rfl⟩
  · cases h
theorem size_set (c : Cell) (j : Nat) (v : Value) (f : Nat → Nat) {vs : List Value} {v' : Value} (e : c.slots = (vs.map (ren f)).toArray) (q : v = ren f v') : (c.setSlot j v).slots = ((vs.set j v').map (ren f)).toArray := by
  subst q
  show c.slots.setIfInBounds j (ren f v') = _
  rw [e, List.setIfInBounds_toArray, List.map_set]
section H
variable {p : Program} {l : Launch} {e : Env} {R : Room} {s : State} {m : MethodId} {args : Array Value} {below : List Frame} {meth : Method} {c : Code} {T : State} {locs : List Loc} {cells slots : Nat}
  {Z : State} {a0 : Array Value} {ws : Ws} {k sa n0 : Nat} {y : MethodName} {pc : Nat} {ls : List Slot} {st : List Value} {H : AHeap}
/-- the point behind one step -/
def Beh (p : Program) (l : Launch) (e : Env) (R : Room) (s : State) (m : MethodId) (args : Array Value) (below : List Frame) (meth : Method) (c : Code) (T : State) (Z : State) (ws : Ws) (k sa n0 cells slots : Nat) (H : AHeap) (g : JFrame) (pc' : Nat) (ls' : List Slot) (st' : List Value) (H' : AHeap) : Prop :=
  ∃ T' locs', Stand p l e R s m args below meth c T' locs' (cells + (H'.length - H.length)) (slots + (tot ws H' - tot ws H)) ∧ Sim Z ws k sa n0 H' T'.heap ∧ Fr n0 locs' ∧
    ∀ target, Steps p.tables e below (T'.setTop (fr (adr k sa n0) m pc' ls' st')) target → Steps p.tables e below (T.setTop g) target
theorem Beh.stay {g : JFrame} {pc' : Nat} {st' : List Value} {T' : State} (X : Stand p l e R s m args below meth c T' locs cells slots) (S : Sim Z ws k sa n0 H T'.heap) (N : Fr n0 locs)
    (h : ∀ target, Steps p.tables e below (T'.setTop (fr (adr k sa n0) m pc' ls st')) target → Steps p.tables e below (T.setTop g) target) : Beh p l e R s m args below meth c T Z ws k sa n0 cells slots H g pc' ls st' H :=
  ⟨T', locs, by rw [Nat.sub_self, Nat.sub_self]; exact X, S, N, h⟩
theorem hGet_sound (hw : ∀ d ∈ ws, d.before a0 Z = true) (X : Stand p l e R s m args below meth c T locs cells slots) (hx : p.tables.exec = Jvm.exec) (hZ : Z.Warmed39 s.vm) (hown : s.vm.findClass y.cls = some m.cls)
    {i : Nat} (hd : decode c.code pc = .ok (.getfield i, 3)) {q : Nat × List Value × AHeap} (hs : hGet ws y.cls i pc H st = some q) (S : Sim Z ws k sa n0 H T.heap) (N : Fr n0 locs) :
    Beh p l e R s m args below meth c T Z ws k sa n0 cells slots H (fr (adr k sa n0) m pc ls st) q.1 ls q.2.1 q.2.2 := by
  unfold hGet at hs
  split at hs
  · rename_i a r
    split at hs
    · rename_i C j C' vs q1 q2
      split at hs
      · rename_i hC; subst hC
        obtain ⟨v, hv, rfl⟩ := Option.map_eq_some_iff.mp hs
        obtain ⟨n, t, r1, r2⟩ := gfR_some q1
        obtain ⟨v', hv', F⟩ := (S.2.2.2.2 a _ q2).2 n t j r2
        cases hv.symm.trans hv'
        obtain ⟨T', X', e', st'⟩ := getF X hx hZ hown (host := "") (Or.inl (hw _ (rFld_mem r1))) Via.refl rfl F (g := fr (adr k sa n0) m pc ls (.ref a :: r)) rfl rfl hd
        exact Beh.stay X' (by rw [e']; exact S) N st'
      · cases hs
    · cases hs
  · cases hs
theorem hPut_sound (hw : ∀ d ∈ ws, d.before a0 Z = true) (X : Stand p l e R s m args below meth c T locs cells slots) (hx : p.tables.exec = Jvm.exec) (hZ : Z.Warmed39 s.vm) (hown : s.vm.findClass y.cls = some m.cls) (hnm : meth.name = y.name)
    {i : Nat} (hd : decode c.code pc = .ok (.putfield i, 3)) {q : Nat × List Value × AHeap} (hs : hPut ws k y.cls y.name i pc H st = some q) (S : Sim Z ws k sa n0 H T.heap) (N : Fr n0 locs) :
    Beh p l e R s m args below meth c T Z ws k sa n0 cells slots H (fr (adr k sa n0) m pc ls st) q.1 ls q.2.1 q.2.2 := by
  unfold hPut at hs
  split at hs
  · rename_i v a r
    split at hs
    · rename_i C j ty C' vs q1 q2
      split at hs
      · rename_i hC; obtain ⟨rfl, hk, hj⟩ := hC
        obtain ⟨v', hv, rfl⟩ := Option.map_eq_some_iff.mp hs
        obtain ⟨n, t, r1, r2, r3, r4, ⟨ki, r5⟩, r6⟩ := pfR_some q1
        have SO := S.2.2.2.2 a _ q2
        obtain ⟨w, hw', F⟩ := SO.2 n t j r2
        obtain ⟨g1, g2⟩ := putv_ok (adr k sa n0) hv
        obtain ⟨T', h', X', e', W, st'⟩ := putFN X hx hZ hown (hw _ (rFld_mem r1)) Via.refl rfl F SO.1 (r4.imp (fun q => hw _ q) fun q => ⟨hw _ q.1, q.2.1, hnm.trans q.2.2⟩) (hw _ r5) r3 g1 g2 (g := fr (adr k sa n0) m pc ls (v :: .ref a :: r)) rfl rfl hd
        have LL : ∀ {n' t' : String}, (n', t') ∈ olay ws C → Laid Z a0 C C n' t' := fun q => (lay_mem q).1.imp (fun q => hw _ q) (fun q => hw _ q)
        have O' : SimO Z ws (adr k sa n0) h' (adr k sa n0 a) (.object C, vs.set j v') := by
          refine ⟨SO.1.wr W, fun n' t' j' q' => ?_⟩
          obtain ⟨u, hu, F'⟩ := SO.2 n' t' j' q'
          by_cases ej : j = j'
          · subst ej
            obtain ⟨rfl, rfl⟩ := fidx_inj r2 q'
            exact ⟨v', by rw [List.getElem?_set_self hj], F.same W⟩
          · refine ⟨u, by rw [List.getElem?_set_ne ej]; exact hu, F'.other W (Or.inr ?_)⟩
            obtain ⟨-, ty', p'⟩ := lay_mem (fidx_mem q')
            refine slot_ne (LL (fidx_mem q')) (LL (fidx_mem r2)) (fun en => ?_) p' r3
            rcases r6 n' t' (fidx_mem q') with g | g
            · exact g en
            · subst en g; rw [r2] at q'; exact ej (Option.some.inj q')
        refine ⟨T', _, ?_, by rw [e']; exact Wr.upd S W O', Fr.snoc X' N (adr_ge hk), st'⟩
        show Stand p l e R s m args below meth c T' _ (cells + ((H.set a (.object C, vs.set j v')).length - H.length)) (slots + (tot ws (H.set a (.object C, vs.set j v')) - tot ws H))
        rw [List.length_set, tot_set (o := (.object C, vs)) (o' := (.object C, vs.set j v')) q2 rfl, Nat.sub_self, Nat.sub_self]
        exact X'
      · cases hs
    · cases hs
  · cases hs
theorem hNew_sound (hw : ∀ d ∈ ws, d.before a0 Z = true) (X : Stand p l e R s m args below meth c T locs cells slots) (hx : p.tables.exec = Jvm.exec) (hZ : Z.Warmed39 s.vm) (hown : s.vm.findClass y.cls = some m.cls)
    {i : Nat} (hd : decode c.code pc = .ok (.new i, 3)) {q : Nat × List Value × AHeap} (hs : hNew ws y.cls i pc H st = some q) (S : Sim Z ws k sa n0 H T.heap) (N : Fr n0 locs)
    (hc : cells + (q.2.2.length - H.length) ≤ R.cells) (hl : slots + (tot ws q.2.2 - tot ws H) ≤ R.slots) (hz0 : T.heap.size = s.heap.size + cells) :
    Beh p l e R s m args below meth c T Z ws k sa n0 cells slots H (fr (adr k sa n0) m pc ls st) q.1 ls q.2.1 q.2.2 := by
  unfold hNew at hs
  split at hs
  · rename_i C q1
    split at hs
    · rename_i g; cases hs
      obtain ⟨ki, hki⟩ := Option.isSome_iff_exists.mp g.1
      have ec : (H ++ [(FieldType.object C, (olay ws C).map dflt)]).length - H.length = 1 := by simp
      have es : tot ws (H ++ [(FieldType.object C, (olay ws C).map dflt)]) - tot ws H = ki := by
        rw [tot_app]; simp [cost, hki]
      dsimp only at hc hl ⊢
      rw [ec] at hc; rw [es] at hl
      have hz := S.next
      obtain ⟨T', h', X', e', E, A, D, -, st'⟩ := newO X hx hZ hown (hw _ (rCls_mem q1)) (hw _ (rInst_mem hki)) (hw _ (hasInit_mem g.2)) rfl (g := fr (adr k sa n0) m pc ls st) rfl hd hc hl
      have hz' : h'.size = T.heap.size + 1 := by
        have u1 := X'.heapSize
        have a1 : (T.heap.size : Nat) < h'.size := A.lt
        rw [e'] at u1
        omega
      refine ⟨T', locs, by rw [ec, es]; exact X', ?_, N, ?_⟩
      · rw [e']
        refine S.push E hz' ⟨A, fun n t j q => ?_⟩
        have hm := fidx_mem q
        obtain ⟨q2, ty, q3⟩ := lay_mem hm
        refine ⟨dflt (n, t), by rw [List.getElem?_map, idx_get q]; rfl, ?_⟩
        have F := D (O := C) (nm := n) (d := t) (q2.imp (fun q => hw _ q) (fun q => hw _ q)) q3
        have e3 : ren (adr k sa n0) (dflt (n, t)) = defaultValue ty := by simp only [dflt, q3, ren_dflt]
        rw [e3]; exact F
      · intro target ht
        rw [hz] at st'
        exact st' target ht
    · cases hs
  · cases hs
theorem hNewA_sound (hw : ∀ d ∈ ws, d.before a0 Z = true) (X : Stand p l e R s m args below meth c T locs cells slots) (hx : p.tables.exec = Jvm.exec) (hZ : Z.Warmed39 s.vm)
    {aty : ArrayType} (hd : decode c.code pc = .ok (.newarray aty, 2)) {q : Nat × List Value × AHeap} (hs : hNewA ws aty pc H st = some q) (S : Sim Z ws k sa n0 H T.heap) (N : Fr n0 locs)
    (hc : cells + (q.2.2.length - H.length) ≤ R.cells) (hl : slots + (tot ws q.2.2 - tot ws H) ≤ R.slots) (hz0 : T.heap.size = s.heap.size + cells) :
    Beh p l e R s m args below meth c T Z ws k sa n0 cells slots H (fr (adr k sa n0) m pc ls st) q.1 ls q.2.1 q.2.2 := by
  unfold hNewA at hs
  split at hs
  · rename_i n r
    split at hs
    · rename_i g; cases hs
      obtain ⟨g1, g2, g3⟩ := g
      have ec : (H ++ [(FieldType.array (newarray.typeOf aty), List.replicate n.toNatClampNeg (defaultValue (newarray.typeOf aty)))]).length - H.length = 1 := by simp
      have es : tot ws (H ++ [(FieldType.array (newarray.typeOf aty), List.replicate n.toNatClampNeg (defaultValue (newarray.typeOf aty)))]) - tot ws H = n.toNatClampNeg := by
        rw [tot_app]; simp [cost]
      dsimp only at hc hl ⊢
      rw [ec] at hc; rw [es] at hl
      have hz := S.next
      obtain ⟨T', h', cA, X', e', E, A, st'⟩ := newP X hx hZ (hw _ (hasArr_mem g1)) rfl (g := fr (adr k sa n0) m pc ls (.int n :: r)) rfl hd rfl g2 (cap := n.toNatClampNeg) (Nat.le_refl _) g3 hc hl
      have hz' : h'.size = T.heap.size + 1 := by
        have u1 := X'.heapSize
        have a1 : (T.heap.size : Nat) < h'.size := A.lt
        rw [e'] at u1
        omega
      refine ⟨T', locs, by rw [ec, es]; exact X', ?_, N, ?_⟩
      · rw [e']
        refine S.push E hz' ⟨_, A, ?_⟩
        simp [newA, ren_dflt]
      · intro target ht
        rw [hz] at st'
        exact st' target ht
    · cases hs
  · cases hs
theorem hLd_some {ok : FieldType → Bool} {q : Nat × List Value × AHeap} (hs : hLd ok pc H st = some q) : ∃ j a r ty vs v, st = .int j :: .ref a :: r ∧ H[a]? = some (.array ty, vs) ∧ ok ty = true ∧ ¬ j < 0 ∧ vs[j.toNatClampNeg]? = some v ∧ q = (pc + 1, v :: r, H) := by
  unfold hLd at hs
  split at hs
  · split at hs
    · split at hs
      · rename_i g
        obtain ⟨v, h1, h2⟩ := Option.map_eq_some_iff.mp hs
        exact ⟨_, _, _, _, _, v, rfl, by assumption, g.1, g.2, h1, h2.symm⟩
      · cases hs
    · cases hs
  · cases hs
theorem hSt_some {ok : FieldType → Bool} {q : Nat × List Value × AHeap} (hs : hSt ok k pc H st = some q) : ∃ v j a r ty vs v', st = v :: .int j :: .ref a :: r ∧ H[a]? = some (.array ty, vs) ∧ ok ty = true ∧ k ≤ a ∧ ¬ j < 0 ∧ j.toNatClampNeg < vs.length ∧ putv ty v = some v' ∧ q = (pc + 1, r, H.set a (.array ty, vs.set j.toNatClampNeg v')) := by
  unfold hSt at hs
  split at hs
  · split at hs
    · split at hs
      · rename_i g
        obtain ⟨v, h1, h2⟩ := Option.map_eq_some_iff.mp hs
        exact ⟨_, _, _, _, _, _, v, rfl, by assumption, g.1, g.2.1, g.2.2.1, g.2.2.2, h1, h2.symm⟩
      · cases hs
    · cases hs
  · cases hs
theorem hLen_some {q : Nat × List Value × AHeap} (hs : hLen pc H st = some q) : ∃ a r ty vs, st = .ref a :: r ∧ H[a]? = some (.array ty, vs) ∧ q = (pc + 1, .int vs.length.toInt32 :: r, H) := by
  unfold hLen at hs
  split at hs
  · split at hs
    · cases hs; exact ⟨_, _, _, _, rfl, by assumption, rfl⟩
    · cases hs
  · cases hs
/-- behind a store into an array -/
theorem st_beh {T' : State} {h' : Heap} {a j : Nat} {ty : FieldType} {vs : List Value} {v' : Value} {r : List Value} {g : JFrame} (X' : Stand p l e R s m args below meth c T' (locs ++ [⟨adr k sa n0 a, j⟩]) cells slots) (e' : T'.heap = h') (W : Wr T.heap h' (adr k sa n0 a) j (ren (adr k sa n0) v'))
    (S : Sim Z ws k sa n0 H T.heap) (N : Fr n0 locs) (q2 : H[a]? = some (.array ty, vs)) (hk : k ≤ a)
    (st' : ∀ target, Steps p.tables e below (T'.setTop (fr (adr k sa n0) m (pc + 1) ls r)) target → Steps p.tables e below (T.setTop g) target) :
    Beh p l e R s m args below meth c T Z ws k sa n0 cells slots H g (pc + 1) ls r (H.set a (.array ty, vs.set j v')) := by
  obtain ⟨cl, A, es⟩ := S.2.2.2.2 a _ q2
  refine ⟨T', _, ?_, by rw [e']; exact Wr.upd S W ⟨_, A.same W, size_set cl j _ _ es rfl⟩, Fr.snoc X' N (adr_ge hk), st'⟩
  rw [List.length_set, tot_set (o := (.array ty, vs)) (o' := (.array ty, vs.set j v')) q2 (by simp [cost]), Nat.sub_self, Nat.sub_self]
  exact X'
set_option maxHeartbeats 1000000 in
theorem hstep_sound (hw : ∀ d ∈ ws, d.before a0 Z = true) (X : Stand p l e R s m args below meth c T locs cells slots) (hx : p.tables.exec = Jvm.exec) (hZ : Z.Warmed39 s.vm) (hown : s.vm.findClass y.cls = some m.cls) (hnm : meth.name = y.name)
    {ins : Instr} {len : Nat} (hd : decode c.code pc = .ok (ins, len)) {q : Nat × List Value × AHeap} (hs : hstep ws k y ins len pc st H = some q) (S : Sim Z ws k sa n0 H T.heap) (N : Fr n0 locs)
    (hc : cells + (q.2.2.length - H.length) ≤ R.cells) (hl : slots + (tot ws q.2.2 - tot ws H) ≤ R.slots) (hz0 : T.heap.size = s.heap.size + cells) :
    Beh p l e R s m args below meth c T Z ws k sa n0 cells slots H (fr (adr k sa n0) m pc ls st) q.1 ls q.2.1 q.2.2 := by
  unfold hstep at hs
  split at hs
  · obtain ⟨rfl, hs⟩ := chk_some hs
    exact hGet_sound hw X hx hZ hown hd hs S N
  · obtain ⟨rfl, hs⟩ := chk_some hs
    exact hPut_sound hw X hx hZ hown hnm hd hs S N
  · obtain ⟨rfl, hs⟩ := chk_some hs
    exact hNew_sound hw X hx hZ hown hd hs S N hc hl hz0
  · obtain ⟨rfl, hs⟩ := chk_some hs
    exact hNewA_sound hw X hx hZ hd hs S N hc hl hz0
  · obtain ⟨rfl, hs⟩ := chk_some hs
    obtain ⟨j, a, r, ty, vs, v, rfl, q2, ho, hj, hv, rfl⟩ := hLd_some hs
    obtain rfl : ty = _ := of_decide_eq_true ho
    obtain ⟨cl, A, es⟩ := S.2.2.2.2 a _ q2
    have hlt := (List.getElem?_eq_some_iff.mp hv).1
    exact Beh.stay X S N fun target ht => X.iaload hx (j := j) (v := ren (adr k sa n0) v) A.1 (State.isArrayOf_alike hZ.alike A.2.1) A.2.2 (fun g => g.elim hj fun g => by rw [es] at g; simp at g; omega) (by rw [es, List.getElem?_toArray, List.getElem?_map, hv]; rfl) (g := fr (adr k sa n0) m pc ls (.int j :: .ref a :: r)) rfl rfl hd target ht
  · obtain ⟨rfl, hs⟩ := chk_some hs
    obtain ⟨j, a, r, ty, vs, v, rfl, q2, ho, hj, hv, rfl⟩ := hLd_some hs
    obtain rfl : ty = _ := of_decide_eq_true ho
    obtain ⟨cl, A, es⟩ := S.2.2.2.2 a _ q2
    have hlt := (List.getElem?_eq_some_iff.mp hv).1
    exact Beh.stay X S N fun target ht => X.caload hx (j := j) (v := ren (adr k sa n0) v) A.1 (State.isArrayOf_alike hZ.alike A.2.1) A.2.2 (fun g => g.elim hj fun g => by rw [es] at g; simp at g; omega) (by rw [es, List.getElem?_toArray, List.getElem?_map, hv]; rfl) (g := fr (adr k sa n0) m pc ls (.int j :: .ref a :: r)) rfl rfl hd target ht
  · obtain ⟨rfl, hs⟩ := chk_some hs
    obtain ⟨j, a, r, ty, vs, v, rfl, q2, ho, hj, hv, rfl⟩ := hLd_some hs
    obtain rfl : ty = _ := of_decide_eq_true ho
    obtain ⟨cl, A, es⟩ := S.2.2.2.2 a _ q2
    have hlt := (List.getElem?_eq_some_iff.mp hv).1
    exact Beh.stay X S N fun target ht => X.laload hx (j := j) (v := ren (adr k sa n0) v) A.1 (State.isArrayOf_alike hZ.alike A.2.1) A.2.2 (fun g => g.elim hj fun g => by rw [es] at g; simp at g; omega) (by rw [es, List.getElem?_toArray, List.getElem?_map, hv]; rfl) (g := fr (adr k sa n0) m pc ls (.int j :: .ref a :: r)) rfl rfl hd target ht
  · obtain ⟨rfl, hs⟩ := chk_some hs
    obtain ⟨j, a, r, ty, vs, v, rfl, q2, ho, hj, hv, rfl⟩ := hLd_some hs
    obtain ⟨cl, A, es⟩ := S.2.2.2.2 a _ q2
    have hlt := (List.getElem?_eq_some_iff.mp hv).1
    simp only [okB, Bool.or_eq_true, decide_eq_true_eq] at ho
    rcases ho with rfl | rfl
    · exact Beh.stay X S N fun target ht => X.baloadBytes hx (j := j) (v := ren (adr k sa n0) v) A.1 (State.isArrayOf_alike hZ.alike A.2.1) A.2.2 (fun g => g.elim hj fun g => by rw [es] at g; simp at g; omega) (by rw [es, List.getElem?_toArray, List.getElem?_map, hv]; rfl) (g := fr (adr k sa n0) m pc ls (.int j :: .ref a :: r)) rfl rfl hd target ht
    · exact Beh.stay X S N fun target ht => X.baloadBooleans hx (j := j) (v := ren (adr k sa n0) v) A.1 (State.isArrayOf_alike hZ.alike A.2.1) A.2.2 (fun g => g.elim hj fun g => by rw [es] at g; simp at g; omega) (by rw [es, List.getElem?_toArray, List.getElem?_map, hv]; rfl) (g := fr (adr k sa n0) m pc ls (.int j :: .ref a :: r)) rfl rfl hd target ht
  · obtain ⟨rfl, hs⟩ := chk_some hs
    obtain ⟨v, j, a, r, ty, vs, v', rfl, q2, ho, hk, hj, hlt, hv, rfl⟩ := hSt_some hs
    obtain rfl : ty = _ := of_decide_eq_true ho
    obtain ⟨cl, A, es⟩ := S.2.2.2.2 a _ q2
    cases v <;> simp only [putv, Option.some.injEq, reduceCtorEq] at hv
    subst hv
    obtain ⟨T', h', X', e', W, st'⟩ := stI X hx hZ rfl A (j := j) (fun g => g.elim hj fun g => by rw [es] at g; simp at g; omega) (g := fr (adr k sa n0) m pc ls (.int _ :: .int j :: .ref a :: r)) rfl rfl hd
    exact st_beh X' e' W S N q2 hk st'
  · obtain ⟨rfl, hs⟩ := chk_some hs
    obtain ⟨v, j, a, r, ty, vs, v', rfl, q2, ho, hk, hj, hlt, hv, rfl⟩ := hSt_some hs
    obtain rfl : ty = _ := of_decide_eq_true ho
    obtain ⟨cl, A, es⟩ := S.2.2.2.2 a _ q2
    cases v <;> simp only [putv, Option.some.injEq, reduceCtorEq] at hv
    subst hv
    obtain ⟨T', h', X', e', W, st'⟩ := stC X hx hZ rfl A (j := j) (fun g => g.elim hj fun g => by rw [es] at g; simp at g; omega) (g := fr (adr k sa n0) m pc ls (.int _ :: .int j :: .ref a :: r)) rfl rfl hd
    exact st_beh X' e' W S N q2 hk st'
  · obtain ⟨rfl, hs⟩ := chk_some hs
    obtain ⟨v, j, a, r, ty, vs, v', rfl, q2, ho, hk, hj, hlt, hv, rfl⟩ := hSt_some hs
    obtain rfl : ty = _ := of_decide_eq_true ho
    obtain ⟨cl, A, es⟩ := S.2.2.2.2 a _ q2
    cases v <;> simp only [putv, Option.some.injEq, reduceCtorEq] at hv
    subst hv
    obtain ⟨T', h', X', e', W, st'⟩ := stJ X hx hZ rfl A (j := j) (fun g => g.elim hj fun g => by rw [es] at g; simp at g; omega) (g := fr (adr k sa n0) m pc ls (.long _ :: .int j :: .ref a :: r)) rfl rfl hd
    exact st_beh X' e' W S N q2 hk st'
  · obtain ⟨rfl, hs⟩ := chk_some hs
    obtain ⟨v, j, a, r, ty, vs, v', rfl, q2, ho, hk, hj, hlt, hv, rfl⟩ := hSt_some hs
    obtain ⟨cl, A, es⟩ := S.2.2.2.2 a _ q2
    simp only [okB, Bool.or_eq_true, decide_eq_true_eq] at ho
    rcases ho with rfl | rfl
    · cases v <;> simp only [putv, Option.some.injEq, reduceCtorEq] at hv
      subst hv
      obtain ⟨T', h', X', e', W, st'⟩ := stB X hx hZ rfl A (j := j) (fun g => g.elim hj fun g => by rw [es] at g; simp at g; omega) (g := fr (adr k sa n0) m pc ls (.int _ :: .int j :: .ref a :: r)) rfl rfl hd
      exact st_beh X' e' W S N q2 hk st'
    · cases v <;> simp only [putv, Option.some.injEq, reduceCtorEq] at hv
      subst hv
      obtain ⟨T', h', X', e', W, st'⟩ := stZ X hx hZ rfl A (j := j) (fun g => g.elim hj fun g => by rw [es] at g; simp at g; omega) (g := fr (adr k sa n0) m pc ls (.int _ :: .int j :: .ref a :: r)) rfl rfl hd
      exact st_beh X' e' W S N q2 hk st'
  · obtain ⟨rfl, hs⟩ := chk_some hs
    obtain ⟨a, r, ty, vs, rfl, q2, rfl⟩ := hLen_some hs
    obtain ⟨cl, A, es⟩ := S.2.2.2.2 a _ q2
    have ez : cl.slots.size = vs.length := by rw [es]; simp
    refine Beh.stay X S N fun target ht => X.arraylength hx (cell := cl) A.1 (State.isArrayOf_alike hZ.alike A.2.1) (g := fr (adr k sa n0) m pc ls (.ref a :: r)) rfl rfl hd target ?_
    rw [ez]; exact ht
  · obtain ⟨rfl, hs⟩ := chk_some hs
    obtain ⟨v, hv, rfl⟩ := Option.map_eq_some_iff.mp hs
    exact Beh.stay X S N (X.ldcInt hx hown (mvT hZ (hw _ (rCon_mem hv))) (g := fr (adr k sa n0) m pc ls st) rfl hd)
  · obtain ⟨rfl, hs⟩ := chk_some hs
    obtain ⟨v, hv, rfl⟩ := Option.map_eq_some_iff.mp hs
    exact Beh.stay X S N (X.ldcwInt hx hown (mvT hZ (hw _ (rCon_mem hv))) (g := fr (adr k sa n0) m pc ls st) rfl hd)
  · obtain ⟨rfl, hs⟩ := chk_some hs
    obtain ⟨v, hv, rfl⟩ := Option.map_eq_some_iff.mp hs
    exact Beh.stay X S N (X.ldc2Long hx hown (mvT hZ (hw _ (rConL_mem hv))) (g := fr (adr k sa n0) m pc ls st) rfl hd)
  · cases hs
end H
theorem hstep_size {ws : Ws} {k : Nat} {y : MethodName} {ins : Instr} {len pc : Nat} {st : List Value} {H : AHeap} {q : Nat × List Value × AHeap} (hs : hstep ws k y ins len pc st H = some q) : H.length ≤ q.2.2.length ∧ tot ws H ≤ tot ws q.2.2 := by
  unfold hstep at hs
  split at hs
  · obtain ⟨rfl, hs⟩ := chk_some hs
    unfold hGet at hs
    split at hs
    · split at hs
      · split at hs
        · obtain ⟨v, -, rfl⟩ := Option.map_eq_some_iff.mp hs; exact ⟨Nat.le_refl _, Nat.le_refl _⟩
        · cases hs
      · cases hs
    · cases hs
  · obtain ⟨rfl, hs⟩ := chk_some hs
    unfold hPut at hs
    split at hs
    · split at hs
      · rename_i C j ty C' vs q1 q2
        split at hs
        · obtain ⟨v, -, rfl⟩ := Option.map_eq_some_iff.mp hs
          exact ⟨Nat.le_of_eq (by rw [List.length_set]), Nat.le_of_eq (tot_set (o := (.object C', vs)) (o' := (.object C', vs.set j v)) q2 rfl).symm⟩
        · cases hs
      · cases hs
    · cases hs
  · obtain ⟨rfl, hs⟩ := chk_some hs
    unfold hNew at hs
    split at hs
    · split at hs
      · cases hs; exact ⟨by simp, by rw [tot_app]; omega⟩
      · cases hs
    · cases hs
  · obtain ⟨rfl, hs⟩ := chk_some hs
    unfold hNewA at hs
    split at hs
    · split at hs
      · cases hs; exact ⟨by simp, by rw [tot_app]; omega⟩
      · cases hs
    · cases hs
  all_goals first
    | (obtain ⟨rfl, hs⟩ := chk_some hs; obtain ⟨j, a, r, ty, vs, v, rfl, q2, ho, hj, hv, rfl⟩ := hLd_some hs; exact ⟨Nat.le_refl _, Nat.le_refl _⟩)
    | (obtain ⟨rfl, hs⟩ := chk_some hs; obtain ⟨v, j, a, r, ty, vs, v', rfl, q2, ho, hk, hj, hlt, hv, rfl⟩ := hSt_some hs; exact ⟨Nat.le_of_eq (by rw [List.length_set]), Nat.le_of_eq (tot_set (o := (.array ty, vs)) (o' := (.array ty, vs.set _ v')) q2 (by simp [cost])).symm⟩)
    | (obtain ⟨rfl, hs⟩ := chk_some hs; obtain ⟨a, r, ty, vs, rfl, q2, rfl⟩ := hLen_some hs; exact ⟨Nat.le_refl _, Nat.le_refl _⟩)
    | (obtain ⟨rfl, hs⟩ := chk_some hs; obtain ⟨v, hv, rfl⟩ := Option.map_eq_some_iff.mp hs; exact ⟨Nat.le_refl _, Nat.le_refl _⟩)
    | (cases hs; done)
end Jvm.Own
namespace Jvm.Own
open Sem ClassFile Op Lib Jvm.Stand Jvm.Free Jvm.LawKit Jvm.RoadKit
/-! OWN 5: the run is the machine's -/
theorem ent_ren (f : Nat → Nat) : ∀ as : List Value, ent (as.map (ren f)) = (ent as).map (renS f)
  | [] => rfl
  | v :: r => by
    simp only [List.map_cons, ent, ren_cat, ent_ren f r]
    split <;> rfl
theorem fill_eq : ∀ (as : List Value) (acc : Array Slot), as.foldl (fun acc v => if v.category = 2 then (acc.push (.val v)).push .second else acc.push (.val v)) acc = acc ++ (ent as).toArray
  | [], acc => by simp [ent]
  | v :: r, acc => by
    simp only [List.foldl_cons, ent]
    split
    · rw [fill_eq r]; simp [← Array.toList_inj]
    · rw [fill_eq r]; simp [← Array.toList_inj]
theorem entry_eq (f : Nat → Nat) (m : MethodId) (as : List Value) (mx : Nat) : entryFrame m (as.map (ren f)).toArray mx = fr f m 0 (entry as mx) [] := by
  have h : argsToLocals (as.map (ren f)).toArray mx = ((entry as mx).map (renS f)).toArray := by
    unfold argsToLocals entry
    simp only [List.foldl_toArray']
    rw [fill_eq, ent_ren]
    simp [← Array.toList_inj, renS]
  unfold entryFrame
  rw [h]; rfl
theorem entry_len {as : List Value} {mx : Nat} (h : (ent as).length ≤ mx) : (entry as mx).length = mx := by simp [entry]; omega
theorem wsum_ren (f : Nat → Nat) (st : List Value) : ((st.map (ren f)).map fun v => v.category).sum = wsum st := by
  unfold wsum
  rw [List.map_map]
  congr 1
  apply List.map_congr_left
  intro v _
  exact ren_cat f v
section Inv
variable {ws : Ws} {dn : Dn} {k : Nat} {y : MethodName} {bytes : ByteArray} {ret : Option FieldType} {pc : Nat} {ls : List Slot} {st : List Value} {H : AHeap}
theorem cR_some {i : Nat} {y' : MethodName} {b : ByteArray} {mx na sl : Nat} {r : Option FieldType} (h : cR ws dn y i = some (y', b, mx, r, na, sl)) :
    Jvm.Cond.methodLink y.cls i y' ∈ ws ∧ Jvm.Cond.code y' b mx r ∈ ws ∧ Jvm.Cond.initialized y'.cls ∈ ws ∧ Jvm.plainName y'.cls = true ∧ (y'.cls ≠ "java/lang/invoke/MethodHandle" ∧ y'.cls ≠ "java/lang/invoke/VarHandle") ∧ rCode ws y' = some (b, mx, r) ∧
    ∃ f' l' f l sig, dnOf dn y' = some (f', l') ∧ dnOf dn y = some (f, l) ∧ parseMethodDescriptor y'.desc = some sig ∧ na = sig.parameters.length ∧ f' + 1 ≤ f ∧ sl + (mx + 11) + l' ≤ l := by
  unfold cR at h
  split at h
  · cases h
  · rename_i z q1
    split at h
    · rename_i b' mx' r' f' l' f l sig q2 q3 q4 q5
      split at h
      · rename_i g
        cases h
        obtain ⟨g1, g2, g3, g4, g5, g6⟩ := g
        exact ⟨rMth_mem q1, rCode_mem q2, hasInit_mem g1, g2, ⟨g3, g4⟩, q2, f', l', f, l, sig, q3, q4, q5, rfl, g5, by omega⟩
      · cases h
    · cases h
theorem act_ret {v : Option Value} (h : act ws dn k y bytes ret pc ls st H = some (.inl v)) : (∃ z r t, decode bytes pc = .ok (.ireturn, 1) ∧ st = .int z :: r ∧ ret = some t ∧ (t = .int ∨ t = .boolean ∨ t = .byte ∨ t = .char ∨ t = .short) ∧ v = some (.int (nar t z))) ∨
    (∃ z, decode bytes pc = .ok (.lreturn, 1) ∧ st = [.long z] ∧ ret = some .long ∧ v = some (.long z)) ∨ (decode bytes pc = .ok (.return_, 1) ∧ st = [] ∧ ret = none ∧ v = none) := by
  unfold act at h
  split at h
  · cases h
  rename_i ins len hd
  split at h
  · cases h
  split at h
  · cases h
  unfold cstep at h
  split at h
  · obtain ⟨rfl, h⟩ := chk_some h
    split at h
    · split at h
      · rename_i g; cases h; exact Or.inl ⟨_, _, _, hd, rfl, rfl, g, rfl⟩
      · cases h
    · cases h
  · obtain ⟨rfl, h⟩ := chk_some h
    split at h
    · cases h; exact Or.inr (Or.inl ⟨_, hd, rfl, rfl, rfl⟩)
    · cases h
  · obtain ⟨rfl, h⟩ := chk_some h
    split at h
    · cases h; exact Or.inr (Or.inr ⟨hd, rfl, rfl, rfl⟩)
    · cases h
  · obtain ⟨rfl, h⟩ := chk_some h
    split at h
    · split at h <;> cases h
    · cases h
  · obtain ⟨rfl, h⟩ := chk_some h
    split at h
    · split at h
      · split at h <;> cases h
      · cases h
    · split at h
      · split at h
        · split at h <;> cases h
        · cases h
      · cases h
  · obtain ⟨rfl, h⟩ := chk_some h
    split at h
    · split at h
      · split at h
        · split at h <;> cases h
        · cases h
      · cases h
    · cases h
  · cases h
theorem act_step {pc' : Nat} {ls' : List Slot} {st' : List Value} {H' : AHeap} (h : act ws dn k y bytes ret pc ls st H = some (.inr (.inl (pc', ls', st', H')))) : ∃ ins len, decode bytes pc = .ok (ins, len) ∧
    ((xstep ins len pc ls st = some (pc', ls', st') ∧ H' = H) ∨ (ls' = ls ∧ hstep ws k y ins len pc st H = some (pc', st', H')) ∨
     (∃ i sl a r, ins = .invokespecial i ∧ len = 3 ∧ oR ws dn y i = some sl ∧ st = .ref a :: r ∧ wsum r ≤ sl ∧ pc' = pc + 3 ∧ ls' = ls ∧ st' = r ∧ H' = H)) := by
  unfold act at h
  split at h
  · cases h
  rename_i ins len hd
  refine ⟨ins, len, hd, ?_⟩
  split at h
  · rename_i g; cases h; exact Or.inl ⟨g, rfl⟩
  split at h
  · rename_i g; cases h; exact Or.inr (Or.inl ⟨rfl, g⟩)
  unfold cstep at h
  split at h
  · obtain ⟨rfl, h⟩ := chk_some h
    split at h
    · split at h <;> cases h
    · cases h
  · obtain ⟨rfl, h⟩ := chk_some h
    split at h <;> cases h
  · obtain ⟨rfl, h⟩ := chk_some h
    split at h <;> cases h
  · obtain ⟨rfl, h⟩ := chk_some h
    split at h
    · split at h <;> cases h
    · cases h
  · obtain ⟨rfl, h⟩ := chk_some h
    split at h
    · rename_i sl ho
      split at h
      · split at h
        · rename_i g; cases h; exact Or.inr (Or.inr ⟨_, sl, _, _, rfl, rfl, ho, rfl, g, rfl, rfl, rfl, rfl⟩)
        · cases h
      · cases h
    · split at h
      · split at h
        · split at h <;> cases h
        · cases h
      · cases h
  · obtain ⟨rfl, h⟩ := chk_some h
    split at h
    · split at h
      · split at h
        · split at h <;> cases h
        · cases h
      · cases h
    · cases h
  · cases h
/-- the three kinds of call -/
theorem act_call {y' : MethodName} {b : ByteArray} {r : Option FieldType} {en : List Slot} {rest : List Value} (h : act ws dn k y bytes ret pc ls st H = some (.inr (.inr (y', b, r, en, rest)))) : ∃ i mx na sl as, cR ws dn y i = some (y', b, mx, r, na, sl) ∧ en = entry as mx ∧ (ent as).length ≤ mx ∧ wsum rest ≤ sl ∧
    ((decode bytes pc = .ok (.invokestatic i, 3) ∧ Jvm.Cond.static y' ∈ ws ∧ as.length = na ∧ st = as.reverse ++ rest) ∨
     (∃ a as', as = .ref a :: as' ∧ as'.length = na ∧ st = as'.reverse ++ .ref a :: rest ∧ Jvm.Cond.instanceMethod y' ∈ ws ∧
      ((decode bytes pc = .ok (.invokespecial i, 3) ∧ y'.name = "<init>" ∧ r = none) ∨
       (decode bytes pc = .ok (.invokevirtual i, 3) ∧ ∃ C vs, H[a]? = some (.object C, vs) ∧ ((Jvm.Cond.privateMethod y' ∈ ws ∧ ∃ ki, Jvm.Cond.instantiable y'.cls ki ∈ ws) ∨ (Jvm.Cond.declares y' ∈ ws ∧ Jvm.Cond.selects y'.cls y' y' ∈ ws ∧ C = y'.cls)))))) := by
  unfold act at h
  split at h
  · cases h
  rename_i ins len hd
  split at h
  · cases h
  split at h
  · cases h
  unfold cstep at h
  split at h
  · obtain ⟨rfl, h⟩ := chk_some h
    split at h
    · split at h <;> cases h
    · cases h
  · obtain ⟨rfl, h⟩ := chk_some h
    split at h <;> cases h
  · obtain ⟨rfl, h⟩ := chk_some h
    split at h <;> cases h
  · rename_i i _ _
    obtain ⟨rfl, h⟩ := chk_some h
    split at h
    · rename_i y1 b1 mx r1 na sl hq
      split at h
      · rename_i g
        cases h
        unfold sR at hq
        split at hq
        · rename_i q hc
          split at hq
          · rename_i hs
            cases hq
            refine ⟨i, mx, na, sl, _, hc, rfl, g.2.2, g.2.1, Or.inl ⟨hd, hasStat_mem hs, by simp; omega, by simp⟩⟩
          · cases hq
        · cases hq
      · cases h
    · cases h
  · rename_i i _ _
    obtain ⟨rfl, h⟩ := chk_some h
    split at h
    · split at h
      · split at h <;> cases h
      · cases h
    · split at h
      · rename_i y1 b1 mx r1 na sl hq
        split at h
        · rename_i a rest' hdrop
          split at h
          · rename_i g
            cases h
            unfold nR at hq
            split at hq
            · rename_i q hc
              split at hq
              · rename_i hs
                cases hq
                refine ⟨i, mx, na, sl, _, hc, rfl, g.2.1, g.1, Or.inr ⟨a, _, rfl, by simp; omega, ?_, hasIM_mem hs.2.1, Or.inl ⟨hd, hs.1, hs.2.2⟩⟩⟩
                rw [List.reverse_reverse, ← hdrop, List.take_append_drop]
              · cases hq
            · cases hq
          · cases h
        · cases h
      · cases h
  · rename_i i _ _
    obtain ⟨rfl, h⟩ := chk_some h
    split at h
    · rename_i pv y1 b1 mx r1 na sl hq
      split at h
      · rename_i a rest' hdrop
        split at h
        · rename_i C vs hH
          split at h
          · rename_i g
            cases h
            unfold vR at hq
            split at hq
            · rename_i q hc
              split at hq
              · rename_i hs
                split at hq
                · rename_i hp; cases hq
                  obtain ⟨ki, hki⟩ := Option.isSome_iff_exists.mp hp.2
                  exact ⟨i, mx, na, sl, _, hc, rfl, g.2.2.1, g.2.1, Or.inr ⟨a, _, rfl, by simp; omega, by rw [List.reverse_reverse, ← hdrop, List.take_append_drop], hasIM_mem hs, Or.inr ⟨hd, C, vs, hH, Or.inl ⟨hasPriv_mem hp.1, ki, rInst_mem hki⟩⟩⟩⟩
                · split at hq
                  · rename_i hp; cases hq
                    exact ⟨i, mx, na, sl, _, hc, rfl, g.2.2.1, g.2.1, Or.inr ⟨a, _, rfl, by simp; omega, by rw [List.reverse_reverse, ← hdrop, List.take_append_drop], hasIM_mem hs, Or.inr ⟨hd, C, vs, hH, Or.inr ⟨hasDecl_mem hp.1, hasSel_mem hp.2, g.1.resolve_left (by simp)⟩⟩⟩⟩
                  · cases hq
              · cases hq
            · cases hq
          · cases h
        · cases h
      · cases h
    · cases h
  · cases h
theorem act_size {pc' : Nat} {ls' : List Slot} {st' : List Value} {H' : AHeap} (h : act ws dn k y bytes ret pc ls st H = some (.inr (.inl (pc', ls', st', H')))) : H.length ≤ H'.length ∧ tot ws H ≤ tot ws H' ∧ ls'.length = ls.length := by
  obtain ⟨ins, len, hd, ⟨g, rfl⟩ | ⟨rfl, g⟩ | ⟨i, sl, a, r, -, -, -, -, -, -, rfl, -, rfl⟩⟩ := act_step h
  · exact ⟨Nat.le_refl _, Nat.le_refl _, xstep_size g⟩
  · have := hstep_size g; exact ⟨this.1, this.2, rfl⟩
  · exact ⟨Nat.le_refl _, Nat.le_refl _, rfl⟩
end Inv
theorem run_size {ws : Ws} {dn : Dn} {k : Nat} : ∀ {n : Nat} {y : MethodName} {bytes : ByteArray} {ret : Option FieldType} {pc : Nat} {ls : List Slot} {st : List Value} {H : AHeap} {v : Option Value} {H' : AHeap}, run ws dn k n y bytes ret pc ls st H = some (v, H') → H.length ≤ H'.length ∧ tot ws H ≤ tot ws H'
  | 0, _, _, _, _, _, _, _, _, _, h => by cases h
  | n + 1, y, bytes, ret, pc, ls, st, H, v, H', h => by
    rw [run] at h
    split at h
    · cases h
    · cases h; exact ⟨Nat.le_refl _, Nat.le_refl _⟩
    · rename_i g
      have h1 := run_size h
      have h2 := act_size g
      exact ⟨Nat.le_trans h2.1 h1.1, Nat.le_trans h2.2.1 h1.2⟩
    · split at h
      · rename_i g
        have h1 := run_size h
        have h2 := run_size g
        exact ⟨Nat.le_trans h2.1 h1.1, Nat.le_trans h2.2 h1.2⟩
      · cases h
section Snd
/-- from here on the machine comes to a return of v with the heap H' -/
def Goes (p : Program) (l : Launch) (e : Env) (R : Room) (s : State) (m : MethodId) (args : Array Value) (below : List Frame) (meth : Method) (c : Code) (T : State) (Z : State) (ws : Ws) (k sa n0 cells slots : Nat) (H : AHeap) (g : JFrame) (ret : Option FieldType) (v : Option Value) (H' : AHeap) : Prop :=
  ∃ T' locs', Stand p l e R s m args below meth c T' locs' (cells + (H'.length - H.length)) (slots + (tot ws H' - tot ws H)) ∧ Sim Z ws k sa n0 H' T'.heap ∧ Fr n0 locs' ∧ (ret = none → v = none) ∧
    ∀ fs, (∀ (fj : JFrame) (acts : List Action), fj.method = m → fj.locked = none → fj.entered = [] → (doReturn e (T'.setTop fj) acts (v.map (ren (adr k sa n0)))).1 = T'.setFrames fs) → Steps p.tables e below (T.setTop g) (T'.setFrames fs)
variable {p : Program} {l : Launch} {e : Env} {R : Room} {s : State} {m : MethodId} {args : Array Value} {below : List Frame} {meth : Method} {c : Code} {T : State} {locs : List Loc} {cells slots : Nat}
  {Z : State} {a0 : Array Value} {ws : Ws} {dn : Dn} {k sa n0 : Nat}
theorem Goes.of {T1 : State} {H H1 H' : AHeap} {g g1 : JFrame} {ret : Option FieldType} {v : Option Value} (hst : ∀ target, Steps p.tables e below (T1.setTop g1) target → Steps p.tables e below (T.setTop g) target)
    (G : Goes p l e R s m args below meth c T1 Z ws k sa n0 (cells + (H1.length - H.length)) (slots + (tot ws H1 - tot ws H)) H1 g1 ret v H') (m1 : H.length ≤ H1.length ∧ tot ws H ≤ tot ws H1) (m2 : H1.length ≤ H'.length ∧ tot ws H1 ≤ tot ws H') :
    Goes p l e R s m args below meth c T Z ws k sa n0 cells slots H g ret v H' := by
  obtain ⟨T', locs', X', S', N', hv, go⟩ := G
  have e1 : cells + (H1.length - H.length) + (H'.length - H1.length) = cells + (H'.length - H.length) := by omega
  have e2 : slots + (tot ws H1 - tot ws H) + (tot ws H' - tot ws H1) = slots + (tot ws H' - tot ws H) := by omega
  rw [e1, e2] at X'
  exact ⟨T', locs', X', S', N', hv, fun fs hf => hst _ (go fs hf)⟩
def Snd (Z : State) (ws : Ws) (dn : Dn) (k sa n0 n : Nat) : Prop :=
  ∀ (y : MethodName) (bytes : ByteArray) (ret : Option FieldType) (pc : Nat) (ls : List Slot) (st : List Value) (H : AHeap) (v : Option Value) (H' : AHeap), run ws dn k n y bytes ret pc ls st H = some (v, H') →
  ∀ (p : Program) (l : Launch) (e : Env) (R : Room) (s : State) (m : MethodId) (args : Array Value) (below : List Frame) (meth : Method) (c : Code) (T : State) (locs : List Loc) (cells slots : Nat),
    Stand p l e R s m args below meth c T locs cells slots → p.tables.exec = Jvm.exec → Z.Warmed39 s.vm → s.vm.findClass y.cls = some m.cls → meth.name = y.name → meth.sig.returnType = ret → c.code = bytes → ls.length = c.maxLocals →
    (∀ f lc, dnOf dn y = some (f, lc) → f ≤ R.frames ∧ lc ≤ R.locals) → Sim Z ws k sa n0 H T.heap → Fr n0 locs → cells + (H'.length - H.length) ≤ R.cells → slots + (tot ws H' - tot ws H) ≤ R.slots → T.heap.size = s.heap.size + cells →
    Goes p l e R s m args below meth c T Z ws k sa n0 cells slots H (fr (adr k sa n0) m pc ls st) ret v H'
theorem met_of {n : Nat} (ih : Snd Z ws dn k sa n0 n) (l : Launch) {y : MethodName} {b : ByteArray} {mx f lc : Nat} {r : Option FieldType} (wsx : List Jvm.Cond) (hp : Jvm.plainName y.cls = true) {as : List Value} (he : (ent as).length ≤ mx) {H H1 : AHeap} {v : Option Value}
    (hrun : run ws dn k n y b r 0 (entry as mx) [] H = some (v, H1)) (hdn : ∀ f' l', dnOf dn y = some (f', l') → f' ≤ f ∧ l' ≤ lc) {h : Heap} (S : Sim Z ws k sa n0 H h) {rc rs : Nat} (hc : H1.length - H.length ≤ rc) (hs : tot ws H1 - tot ws H ≤ rs) :
    MetFree l y (head1 (Jvm.Cond.code y b mx r :: wsx) ({ frames := f, cells := rc, slots := rs, locals := lc } : Room)) (fun a U => a = (as.map (ren (adr k sa n0))).toArray ∧ Z.Warmed39 U.vm ∧ U.heap = h) (fun _ _ _ _ _ => True)
      (fun _ U o U' => ∃ w L, o = .returned w ∧ (w = v.map (ren (adr k sa n0)) ∧ Sim Z ws k sa n0 H1 U'.heap ∧ Fr n0 L) ∧ FrameEnd U o U' L (H1.length - H.length) (tot ws H1 - tot ws H)) := by
  refine MetFree.of_bodySF (plainFor_of_name hp) hisR ?_
  intro p e s m args below meth c s₁ Bd hml0 hP hK
  obtain ⟨rfl, hZ, hh⟩ := hP
  have hown : s.vm.findClass y.cls = some m.cls := findClass_of_methodNamed Bd.named
  have hnm := (name_of_methodNamed Bd.named Bd.method).1
  have X0 : Stand p l e ({ frames := f, cells := rc, slots := rs, locals := lc } : Room) s m (as.map (ren (adr k sa n0))).toArray below meth c s₁ [] 0 0 := Stand.of_body Bd
  have e0 : s₁.heap = h := by rw [← hh, Bd.state]; rfl
  obtain ⟨T', locs', X', S', N', hv, go⟩ := ih y b r 0 (entry as mx) [] H v H1 hrun p l e _ s m _ below meth c s₁ [] 0 0 X0 Bd.exec hZ hown hnm Bd.returns Bd.bytes (by rw [entry_len he]; exact hml0.symm) hdn (by rw [e0]; exact S) (Fr.nil n0) (by rw [Nat.zero_add]; exact hc) (by rw [Nat.zero_add]; exact hs) (by rw [e0, ← hh, Nat.add_zero])
  obtain ⟨fs, hr, hrun', hended, hW, hsame⟩ := X'.leave (v := v.map (ren (adr k sa n0))) (fun hn => by rw [Bd.returns] at hn; rw [hv hn]; rfl)
  refine ⟨_, _, castTop (entry_eq _ m as mx) (go fs hr), hrun', hended, _, locs', rfl, ⟨rfl, S', N'⟩, ⟨_, rfl⟩, hW, hsame.mono (Nat.le_of_eq (Nat.zero_add _)) (Nat.le_of_eq (Nat.zero_add _))⟩
set_option maxHeartbeats 2000000 in
theorem snd (hw : ∀ d ∈ ws, d.before a0 Z = true) : ∀ n, Snd Z ws dn k sa n0 n
  | 0 => fun y bytes ret pc ls st H v H' h => by cases h
  | n + 1 => fun y bytes ret pc ls st H v H' h p l e R s m args below meth c T locs cells slots X hx hZ hown hnm hret hby hls hF S N hc hl hz0 => by
    have ih := snd hw n
    rw [run] at h
    split at h
    · cases h
    · rename_i v' ha
      cases h
      have stay : ∀ {v : Option Value}, (ret = none → v = none) → (∀ fs, (∀ (fj : JFrame) (acts : List Action), fj.method = m → fj.locked = none → fj.entered = [] → (doReturn e (T.setTop fj) acts (v.map (ren (adr k sa n0)))).1 = T.setFrames fs) → Steps p.tables e below (T.setTop (fr (adr k sa n0) m pc ls st)) (T.setFrames fs)) →
          Goes p l e R s m args below meth c T Z ws k sa n0 cells slots H (fr (adr k sa n0) m pc ls st) ret v H := fun hv hg => ⟨T, locs, by rw [Nat.sub_self, Nat.sub_self]; exact X, S, N, hv, hg⟩
      rcases act_ret ha with ⟨z, r, t, hd, rfl, rfl, ht, rfl⟩ | ⟨z, hd, rfl, rfl, rfl⟩ | ⟨hd, rfl, rfl, rfl⟩
      · refine stay (fun h => by cases h) fun fs hf => ?_
        rcases ht with rfl | ht
        · exact retOut X hx hret (w := .int z) (rest := r.map (ren (adr k sa n0))) rfl (Or.inl ⟨rfl, Or.inl rfl, z, rfl⟩) (hb hby hd) hf
        · exact retN X hx hret ht (hb hby hd) hf
      · exact stay (fun h => by cases h) fun fs hf => retOut X hx hret (w := .long z) (rest := []) rfl (Or.inr (Or.inl ⟨rfl, rfl, z, rfl⟩)) (hb hby hd) hf
      · exact stay (fun _ => rfl) fun fs hf => X.returnOut hx hret (hb hby hd) hf
    · rename_i pc' ls' st' H1 ha
      have m1 := act_size ha
      have m2 := run_size h
      obtain ⟨ins, len, hd, ⟨g, rfl⟩ | ⟨rfl, g⟩ | ⟨i, sl, a, r, rfl, rfl, ho, rfl, hW, rfl, rfl, rfl, rfl⟩⟩ := act_step ha
      · obtain ⟨T', locs', X', S', N', hv, go⟩ := ih y bytes ret pc' ls' st' H1 v H' h p l e R s m args below meth c T locs cells slots X hx hZ hown hnm hret hby (m1.2.2.trans hls) hF S N hc hl hz0
        exact ⟨T', locs', X', S', N', hv, fun fs hf => xstep_sound X.here hx (adr k sa n0) (hb hby hd) g (go fs hf)⟩
      · obtain ⟨T1, locs1, X1, S1, N1, st1⟩ := hstep_sound (ls := ls') hw X hx hZ hown hnm (hb hby hd) g S N (by dsimp only; omega) (by dsimp only; omega) hz0
        dsimp only at X1 S1 st1
        have z1 := S.1
        have z2 := S1.1
        have z3 := S.2.1
        have G := ih y bytes ret pc' ls' st' H1 v H' h p l e R s m args below meth c T1 locs1 _ _ X1 hx hZ hown hnm hret hby hls hF S1 N1 (by omega) (by omega) (by omega)
        exact Goes.of st1 G ⟨m1.1, m1.2.1⟩ m2
      · unfold oR at ho
        split at ho
        · rename_i y1 b1 mx1 r1 f1 l1 q1 q2 q3
          split at ho
          · rename_i g
            cases ho
            obtain ⟨rfl, g2, g3, rfl, rfl, g4, g5⟩ := g
            obtain ⟨u1, u2⟩ := hF _ _ q3
            have eb : b1 = ⟨#[0xb1]⟩ := by cases b1; cases g3; rfl
            subst eb
            obtain ⟨T1, X1, e1, st1⟩ := initO X hx hZ hown (hw _ (rMth_mem q1)) (hw _ (hasIM_mem g2)) (hw _ (rCode_mem q2)) rfl (g := fr (adr k sa n0) m pc ls' (.ref a :: st')) rfl (by simp [hls]) rfl (hb hby hd) (by omega) (W := l1 - 12) (by show 2 * 0 + _ ≤ _; rw [wsum_ren]; omega) (by omega)
            have G := ih y bytes ret (pc + 3) ls' st' H1 v H' h p l e R s m args below meth c T1 locs cells slots X1 hx hZ hown hnm hret hby hls hF (by rw [e1]; exact S) N hc hl (by rw [e1]; exact hz0)
            obtain ⟨T', locs', X', S', N', hv, go⟩ := G
            exact ⟨T', locs', X', S', N', hv, fun fs hf => st1 _ (go fs hf)⟩
          · cases ho
        · cases ho
    · rename_i y' b r en rest ha
      split at h
      · rename_i v1 H1 h1
        have m1 := run_size h1
        have m2 := run_size h
        obtain ⟨i, mx, na, sl, as, hq, rfl, hen, hW, hk⟩ := act_call ha
        obtain ⟨w1, w2, w3, w4, w5, -, f', l', f, lc, sig, d1, d2, d3, d4, d5, d6⟩ := cR_some hq
        obtain ⟨u1, u2⟩ := hF _ _ d2
        have hM := met_of ih l [] w4 hen h1 (f := f') (lc := l') (fun f2 l2 q => by rw [d1] at q; cases q; exact ⟨Nat.le_refl _, Nat.le_refl _⟩) S (Nat.le_refl _) (Nat.le_refl _)
        have hB := backOf (R := R) (p := p) (e := e) (below := below) (s := s) (args := args) (len := 3) (W := sl) (rm := ({ frames := f', cells := H1.length - H.length, slots := tot ws H1 - tot ws H, locals := l' } : Room)) (Q := fun w h L => w = v1.map (ren (adr k sa n0)) ∧ Sim Z ws k sa n0 H1 h ∧ Fr n0 L) hM hZ (hw _ w2) (hw _ w3) (by show f' + 1 ≤ _; omega) (by show sl + (mx + 11) + l' ≤ _; omega)
        have hsz : (fr (adr k sa n0) m pc ls st).locals.size = c.maxLocals := by simp [hls]
        have hWW : ∀ st' : List Value, wsum st' ≤ sl → 2 * (fr (adr k sa n0) m pc ls st).monitorRoom + ((st'.map (ren (adr k sa n0))).map fun v => v.category).sum ≤ sl := fun st' q => by show 2 * 0 + _ ≤ _; rw [wsum_ren]; omega
        have hback : ∀ (v' : Option Value) (vm₁ : Vm) (B : Pt), Stand p l e R s m args below meth c B.U B.locs B.cells B.slots →
            (∃ L, (v' = v1.map (ren (adr k sa n0)) ∧ Sim Z ws k sa n0 H1 B.U.heap ∧ Fr n0 L) ∧ B.locs = locs ++ L ∧ B.cells = cells + (H1.length - H.length) ∧ B.slots = slots + (tot ws H1 - tot ws H)) →
            (∀ target, Steps p.tables e below (B.U.setTop { fr (adr k sa n0) m pc ls st with pc := pc + 3, stack := v'.toList ++ rest.map (ren (adr k sa n0)) }) target → Steps p.tables e below (T.setTop (fr (adr k sa n0) m pc ls st)) target) →
            Goes p l e R s m args below meth c T Z ws k sa n0 cells slots H (fr (adr k sa n0) m pc ls st) ret v H' := by
          rintro v' vm₁ ⟨T1, L1, k1, n1⟩ X1 ⟨Lc, ⟨rfl, S1, N1⟩, l1, y1, z1⟩ st1
          dsimp only [Pt.U, Pt.locs, Pt.cells, Pt.slots] at X1 l1 y1 z1 st1 S1
          subst l1 y1 z1
          have z1 := S.1
          have z2 := S1.1
          have z3 := S.2.1
          have G := ih y bytes ret (pc + 3) ls (v1.toList ++ rest) H1 v H' h p l e R s m args below meth c T1 _ _ _ X1 hx hZ hown hnm hret hby hls hF S1 (Fr.app N N1) (by omega) (by omega) (by omega)
          refine Goes.of (fun target ht => st1 target ?_) G m1 m2
          have e1 : (v1.toList ++ rest).map (ren (adr k sa n0)) = (v1.map (ren (adr k sa n0))).toList ++ rest.map (ren (adr k sa n0)) := by cases v1 <;> simp
          rw [← e1]; exact ht
        rcases hk with ⟨hd, ws1, hna, rfl⟩ | ⟨a, as', rfl, hna, rfl, wi, ⟨hd, hn, rfl⟩ | ⟨hd, C, vs, hH, hpd⟩⟩
        · obtain ⟨v', vm₁, B, -, X1, P1, st1⟩ := Jvm.LawKit.callS X hx (y := y') hown (mvT hZ (hw _ w1)) (mvT hZ (hw _ ws1)) (mvT hZ (hw _ w3)) (mvT hZ (hw _ w2)) w5 hB (g := fr (adr k sa n0) m pc ls (as.reverse ++ rest)) rfl hsz (argsL := as.map (ren (adr k sa n0))) (rest := rest.map (ren (adr k sa n0)))
            (fun sg hsg => by rw [d3] at hsg; cases hsg; simp [hna, d4]) (by simp) (hWW rest hW) (hb hby hd) (fun _ _ => ⟨rfl, rfl, by show cells + (H1.length - H.length) ≤ _; omega, by show slots + (tot ws H1 - tot ws H) ≤ _; omega⟩)
          exact hback v' vm₁ B X1 P1 st1
        · obtain ⟨v', vm₁, B, -, X1, P1, st1⟩ := X.specialBack hx (y := y') hn hown (mvT hZ (hw _ w1)) (mvT hZ (hw _ wi)) (mvT hZ (hw _ w2)) w5 hB (g := fr (adr k sa n0) m pc ls (as'.reverse ++ .ref a :: rest)) rfl hsz (Steps.refl _) (a := adr k sa n0 a) (argsL := as'.map (ren (adr k sa n0))) (rest := rest.map (ren (adr k sa n0)))
            (fun sg hsg => by rw [d3] at hsg; cases hsg; simp [hna, d4]) (by simp [ren]) (hWW rest hW) (hb hby hd) (fun _ _ => ⟨rfl, rfl, by show cells + (H1.length - H.length) ≤ _; omega, by show slots + (tot ws H1 - tot ws H) ≤ _; omega⟩)
          exact hback v' vm₁ B X1 P1 fun target ht => st1.trans ht
        · have E := (S.2.2.2.2 a _ hH).1
          rcases hpd with ⟨wp, ki, wki⟩ | ⟨wd, wsel, rfl⟩
          · obtain ⟨cq, hq1, hq2⟩ := E.cell
            have hpa : s.PrivateAt y' := Cond.privateMethod_at (mvP hZ (hw _ wp) (args := #[]))
            have hsel : (Jvm.Cond.selects y'.cls y' y').before args s = true := by
              have wz : (Jvm.Cond.instantiable y'.cls ki).before args s = true := mvT hZ (hw _ wki)
              obtain ⟨c2, k2, i1, i2, -, i4, -⟩ := Cond.instantiable_spec wz
              exact selects_self_of_private i1 i2 (Bool.or_eq_false_iff.mp i4).1 hpa (mvT hZ (hw _ wi)) w5
            obtain ⟨v', vm₁, B, -, X1, P1, st1⟩ := X.privateBack hx (y := y') hown (mvT hZ (hw _ w1)) (mvT hZ (hw _ wi)) hsel hpa (mvT hZ (hw _ w2)) w5 hB (g := fr (adr k sa n0) m pc ls (as'.reverse ++ .ref a :: rest)) rfl hsz (Steps.refl _) (a := adr k sa n0 a) hq1 hq2 (argsL := as'.map (ren (adr k sa n0))) (rest := rest.map (ren (adr k sa n0)))
              (fun sg hsg => by rw [d3] at hsg; cases hsg; simp [hna, d4]) (by simp [ren]) (hWW rest hW) (hb hby hd) (fun _ _ => ⟨rfl, rfl, by show cells + (H1.length - H.length) ≤ _; omega, by show slots + (tot ws H1 - tot ws H) ≤ _; omega⟩)
            exact hback v' vm₁ B X1 P1 fun target ht => st1.trans ht
          · obtain ⟨cq, kq, qa, qb, qc⟩ := isOf hZ rfl E
            obtain ⟨v', vm₁, B, -, X1, P1, st1⟩ := X.virtualBack hx (y := y') (z := y') hown (mvT hZ (hw _ w1)) (mvT hZ (hw _ wd)) (notFace_of_selects (args := #[]) (mvT hZ (hw _ wsel))) (mvT hZ (hw _ wsel)) (mvT hZ (hw _ wi)) w5 hB qa qc (g := fr (adr k sa n0) m pc ls (as'.reverse ++ .ref a :: rest)) rfl hsz (Steps.refl _) (argsL := as'.map (ren (adr k sa n0))) (rest := rest.map (ren (adr k sa n0)))
              (fun sg hsg => by rw [d3] at hsg; cases hsg; simp [hna, d4]) (by simp [ren]) (hWW rest hW) (hb hby hd) (fun _ _ => ⟨rfl, rfl, by show cells + (H1.length - H.length) ≤ _; omega, by show slots + (tot ws H1 - tot ws H) ≤ _; omega⟩)
            exact hback v' vm₁ B X1 P1 fun target ht => st1.trans ht
      · cases h
end Snd
end Jvm.Own
namespace Jvm.Own
open Sem ClassFile Op Lib Jvm.Stand Jvm.Free Jvm.LawKit Jvm.RoadKit
/-! OWN 6: from here on no machine is in sight -/
theorem run_succ {ws : Ws} {dn : Dn} {k : Nat} : ∀ {n : Nat} {y : MethodName} {bytes : ByteArray} {ret : Option FieldType} {pc : Nat} {ls : List Slot} {st : List Value} {H : AHeap} {r : Option Value × AHeap}, run ws dn k n y bytes ret pc ls st H = some r → run ws dn k (n + 1) y bytes ret pc ls st H = some r
  | 0, _, _, _, _, _, _, _, _, h => by cases h
  | n + 1, y, bytes, ret, pc, ls, st, H, r, h => by
    rw [run] at h
    rw [run]
    split at h
    · cases h
    · exact h
    · exact run_succ h
    · split at h
      · rename_i v H1 g
        rw [run_succ g]
        exact run_succ h
      · cases h
theorem run_mono {ws : Ws} {dn : Dn} {k n n' : Nat} {y : MethodName} {bytes : ByteArray} {ret : Option FieldType} {pc : Nat} {ls : List Slot} {st : List Value} {H : AHeap} {r : Option Value × AHeap} (hn : n ≤ n') (h : run ws dn k n y bytes ret pc ls st H = some r) : run ws dn k n' y bytes ret pc ls st H = some r := by
  induction hn with
  | refl => exact h
  | step _ ih => exact run_succ ih
/-- from here on a run comes to a return at which Q holds -/
def W (ws : Ws) (dn : Dn) (k : Nat) (y : MethodName) (bytes : ByteArray) (ret : Option FieldType) (pc : Nat) (ls : List Slot) (st : List Value) (H : AHeap) (Q : Option Value → AHeap → Prop) : Prop :=
  ∃ n v H', run ws dn k n y bytes ret pc ls st H = some (v, H') ∧ Q v H'
section
variable {ws : Ws} {dn : Dn} {k : Nat} {y : MethodName} {bytes : ByteArray} {ret : Option FieldType} {pc : Nat} {ls : List Slot} {st : List Value} {H : AHeap} {Q : Option Value → AHeap → Prop}
theorem W_step {pc' : Nat} {ls' : List Slot} {st' : List Value} {H' : AHeap} (h : act ws dn k y bytes ret pc ls st H = some (.inr (.inl (pc', ls', st', H')))) : W ws dn k y bytes ret pc ls st H Q = W ws dn k y bytes ret pc' ls' st' H' Q := by
  refine propext ⟨fun ⟨n, v, H1, h1, h2⟩ => ?_, fun ⟨n, v, H1, h1, h2⟩ => ⟨n + 1, v, H1, by rw [run, h]; exact h1, h2⟩⟩
  cases n with
  | zero => cases h1
  | succ n => rw [run, h] at h1; exact ⟨n, v, H1, h1, h2⟩
theorem W_ret {v : Option Value} (h : act ws dn k y bytes ret pc ls st H = some (.inl v)) : W ws dn k y bytes ret pc ls st H Q = Q v H := by
  refine propext ⟨fun ⟨n, v, H1, h1, h2⟩ => ?_, fun h2 => ⟨1, v, H, by rw [run, h], h2⟩⟩
  cases n with
  | zero => cases h1
  | succ n => rw [run, h] at h1; cases h1; exact h2
theorem W_call {y' : MethodName} {b : ByteArray} {r : Option FieldType} {en : List Slot} {rest : List Value} (h : act ws dn k y bytes ret pc ls st H = some (.inr (.inr (y', b, r, en, rest)))) :
    W ws dn k y bytes ret pc ls st H Q = W ws dn k y' b r 0 en [] H (fun v H1 => W ws dn k y bytes ret (pc + 3) ls (v.toList ++ rest) H1 Q) := by
  refine propext ⟨fun ⟨n, v, H1, h1, h2⟩ => ?_, fun ⟨n, v, H1, h1, n', v', H', h2, h3⟩ => ⟨max n n' + 1, v', H', ?_, h3⟩⟩
  · cases n with
    | zero => cases h1
    | succ n =>
      rw [run, h] at h1
      dsimp only at h1
      split at h1
      · rename_i v' H' g; exact ⟨n, v', H', g, n, v, H1, h1, h2⟩
      · cases h1
  · rw [run, h]
    dsimp only
    rw [run_mono (Nat.le_max_left _ _) h1]
    exact run_mono (Nat.le_max_right _ _) h2
theorem W.mono {Q' : Option Value → AHeap → Prop} (h : W ws dn k y bytes ret pc ls st H Q) (hq : ∀ v H', Q v H' → Q' v H') : W ws dn k y bytes ret pc ls st H Q' := by
  obtain ⟨n, v, H', h1, h2⟩ := h; exact ⟨n, v, H', h1, hq _ _ h2⟩
theorem act_x {ins : Instr} {len pc' : Nat} {ls' : List Slot} {st' : List Value} (hd : decode bytes pc = .ok (ins, len)) (hx : xstep ins len pc ls st = some (pc', ls', st')) : act ws dn k y bytes ret pc ls st H = some (.inr (.inl (pc', ls', st', H))) := by
  unfold act; rw [hd]; dsimp only; rw [hx]
theorem act_h {ins : Instr} {len pc' : Nat} {st' : List Value} {H' : AHeap} (hd : decode bytes pc = .ok (ins, len)) (hx : xstep ins len pc ls st = none) (hh : hstep ws k y ins len pc st H = some (pc', st', H')) : act ws dn k y bytes ret pc ls st H = some (.inr (.inl (pc', ls, st', H'))) := by
  unfold act; rw [hd]; dsimp only; rw [hx]; dsimp only; rw [hh]
theorem act_c {ins : Instr} {len : Nat} (hd : decode bytes pc = .ok (ins, len)) (hx : xstep ins len pc ls st = none) (hh : hstep ws k y ins len pc st H = none) : act ws dn k y bytes ret pc ls st H = cstep ws dn y ret ins len pc ls st H := by
  unfold act; rw [hd]; dsimp only; rw [hx]; dsimp only; rw [hh]
/-- a plain step -/
theorem w_x {ins : Instr} {len pc' : Nat} {ls' : List Slot} {st' : List Value} (hd : decode bytes pc = .ok (ins, len)) (hx : xstep ins len pc ls st = some (pc', ls', st')) : W ws dn k y bytes ret pc ls st H Q = W ws dn k y bytes ret pc' ls' st' H Q := W_step (act_x hd hx)
/-- a conditional branch -/
theorem w_if {cd : ClassFile.Cond} {o : Int} {x : Int32} {t : Nat} {P : Prop} [Decidable P] (hd : decode bytes pc = .ok (.ifCond cd o, 3)) (hp : ifCond.holds cd x = decide P) (hj : jmp pc o = some t) :
    W ws dn k y bytes ret pc ls (.int x :: st) H Q = if P then W ws dn k y bytes ret t ls st H Q else W ws dn k y bytes ret (pc + 3) ls st H Q := by
  split
  · exact w_x hd (by simp only [xstep, chk, br, hp, hj, if_true]; simp [*])
  · exact w_x hd (by simp only [xstep, chk, br, hp, hj, if_true]; simp [*])
theorem w_icmp {cd : ClassFile.Cond} {o : Int} {x1 x2 : Int32} {t : Nat} {P : Prop} [Decidable P] (hd : decode bytes pc = .ok (.if_icmp cd o, 3)) (hp : if_icmp.holds cd x1 x2 = decide P) (hj : jmp pc o = some t) :
    W ws dn k y bytes ret pc ls (.int x2 :: .int x1 :: st) H Q = if P then W ws dn k y bytes ret t ls st H Q else W ws dn k y bytes ret (pc + 3) ls st H Q := by
  split
  · exact w_x hd (by simp only [xstep, chk, br, hp, hj, if_true]; simp [*])
  · exact w_x hd (by simp only [xstep, chk, br, hp, hj, if_true]; simp [*])
theorem w_get {i j : Nat} {a : Nat} {C : String} {vs : List Value} {v : Value} (hd : decode bytes pc = .ok (.getfield i, 3)) (hr : gfR ws y.cls i = some (C, j)) (ho : H[a]? = some (.object C, vs)) (hv : vs[j]? = some v) :
    W ws dn k y bytes ret pc ls (.ref a :: st) H Q = W ws dn k y bytes ret (pc + 3) ls (v :: st) H Q :=
  W_step (act_h hd rfl (by simp only [hstep, chk, hGet, hr, ho, hv, if_true, Option.map_some]))
theorem w_put {i j : Nat} {a : Nat} {C : String} {ty : FieldType} {vs : List Value} {v v' : Value} {H' : AHeap} (hd : decode bytes pc = .ok (.putfield i, 3)) (hr : pfR ws y.cls y.name i = some (C, j, ty)) (ho : H[a]? = some (.object C, vs)) (hk : k ≤ a) (hj : j < vs.length) (hv : putv ty v = some v') (hH : H.set a (.object C, vs.set j v') = H') :
    W ws dn k y bytes ret pc ls (v :: .ref a :: st) H Q = W ws dn k y bytes ret (pc + 3) ls st H' Q :=
  W_step (act_h hd rfl (by simp only [hstep, chk, hPut, hr, ho, hv, if_true, true_and, hk, hj, Option.map_some, hH, and_self]))
theorem w_new {i : Nat} {C : String} (hd : decode bytes pc = .ok (.new i, 3)) (hr : hNew ws y.cls i pc H st = some (pc + 3, .ref H.length :: st, H ++ [(.object C, (olay ws C).map dflt)])) :
    W ws dn k y bytes ret pc ls st H Q = W ws dn k y bytes ret (pc + 3) ls (.ref H.length :: st) (H ++ [(.object C, (olay ws C).map dflt)]) Q :=
  W_step (act_h hd rfl (by simp only [hstep, chk, if_true]; exact hr))
theorem w_newA {aty : ArrayType} {n : Int32} {ty : FieldType} (hd : decode bytes pc = .ok (.newarray aty, 2)) (ht : newarray.typeOf aty = ty) (hr : hasArr ws ty = true) (hn : ¬ n < 0) (hb : n.toNatClampNeg * 8 ≤ 536870912) :
    W ws dn k y bytes ret pc ls (.int n :: st) H Q = W ws dn k y bytes ret (pc + 2) ls (.ref H.length :: st) (H ++ [(.array ty, List.replicate n.toNatClampNeg (defaultValue ty))]) Q := by
  subst ht
  exact W_step (act_h hd rfl (by simp only [hstep, chk, hNewA, hr, hn, hb, if_true, not_false_eq_true, and_self]))
/-- may the instruction read an array of that kind? -/
def ldOk : Instr → FieldType → Bool
  | .iaload, .int | .caload, .char | .laload, .long | .baload, .byte | .baload, .boolean => true
  | _, _ => false
def stOk : Instr → FieldType → Bool
  | .iastore, .int | .castore, .char | .lastore, .long | .bastore, .byte | .bastore, .boolean => true
  | _, _ => false
theorem w_ald {ins : Instr} {a : Nat} {j : Int32} {ty : FieldType} {vs : List Value} {v : Value} (hd : decode bytes pc = .ok (ins, 1)) (hi : ldOk ins ty = true) (ho : H[a]? = some (.array ty, vs)) (hj : ¬ j < 0) (hv : vs[j.toNatClampNeg]? = some v) :
    W ws dn k y bytes ret pc ls (.int j :: .ref a :: st) H Q = W ws dn k y bytes ret (pc + 1) ls (v :: st) H Q := by
  unfold ldOk at hi
  split at hi
  all_goals first
    | exact W_step (act_h hd rfl (by simp only [hstep, chk, hLd, okT, okB, ho, hv, hj, if_true, Option.map_some, decide_true, not_false_eq_true, and_self, Bool.or_true, Bool.true_or]))
    | cases hi
theorem w_ast {ins : Instr} {a : Nat} {j : Int32} {ty : FieldType} {vs : List Value} {v v' : Value} {H' : AHeap} (hd : decode bytes pc = .ok (ins, 1)) (hi : stOk ins ty = true) (ho : H[a]? = some (.array ty, vs)) (hk : k ≤ a) (hj : ¬ j < 0) (hl : j.toNatClampNeg < vs.length) (hv : putv ty v = some v') (hH : H.set a (.array ty, vs.set j.toNatClampNeg v') = H') :
    W ws dn k y bytes ret pc ls (v :: .int j :: .ref a :: st) H Q = W ws dn k y bytes ret (pc + 1) ls st H' Q := by
  unfold stOk at hi
  split at hi
  all_goals first
    | exact W_step (act_h hd rfl (by simp only [hstep, chk, hSt, okT, okB, ho, hv, hj, hk, hl, hH, if_true, Option.map_some, decide_true, not_false_eq_true, and_self, Bool.or_true, Bool.true_or]))
    | cases hi
theorem w_len {a : Nat} {ty : FieldType} {vs : List Value} (hd : decode bytes pc = .ok (.arraylength, 1)) (ho : H[a]? = some (.array ty, vs)) :
    W ws dn k y bytes ret pc ls (.ref a :: st) H Q = W ws dn k y bytes ret (pc + 1) ls (.int vs.length.toInt32 :: st) H Q :=
  W_step (act_h hd rfl (by simp only [hstep, chk, hLen, ho, if_true]))
theorem w_ldc {i : Nat} {v : Int32} (hd : decode bytes pc = .ok (.ldc i, 2)) (hr : rCon ws y.cls i = some v) : W ws dn k y bytes ret pc ls st H Q = W ws dn k y bytes ret (pc + 2) ls (.int v :: st) H Q :=
  W_step (act_h hd rfl (by simp only [hstep, chk, hr, if_true, Option.map_some]))
theorem w_ldcw {i : Nat} {v : Int32} (hd : decode bytes pc = .ok (.ldc_w i, 3)) (hr : rCon ws y.cls i = some v) : W ws dn k y bytes ret pc ls st H Q = W ws dn k y bytes ret (pc + 3) ls (.int v :: st) H Q :=
  W_step (act_h hd rfl (by simp only [hstep, chk, hr, if_true, Option.map_some]))
theorem w_ldc2 {i : Nat} {v : Int64} (hd : decode bytes pc = .ok (.ldc2_w i, 3)) (hr : rConL ws y.cls i = some v) : W ws dn k y bytes ret pc ls st H Q = W ws dn k y bytes ret (pc + 3) ls (.long v :: st) H Q :=
  W_step (act_h hd rfl (by simp only [hstep, chk, hr, if_true, Option.map_some]))
theorem w_iret {z : Int32} (hd : decode bytes pc = .ok (.ireturn, 1)) (hr : ret = some .int) : W ws dn k y bytes ret pc ls (.int z :: st) H Q = Q (some (.int z)) H := by
  subst hr; exact W_ret (by rw [act_c hd rfl rfl]; rfl)
theorem w_iretN {z : Int32} {t : FieldType} (hd : decode bytes pc = .ok (.ireturn, 1)) (hr : ret = some t) (ht : t = .int ∨ t = .boolean ∨ t = .byte ∨ t = .char ∨ t = .short) : W ws dn k y bytes ret pc ls (.int z :: st) H Q = Q (some (.int (nar t z))) H := by
  subst hr; exact W_ret (by rw [act_c hd rfl rfl]; simp only [cstep, chk, if_true, ht])
theorem w_lret {z : Int64} (hd : decode bytes pc = .ok (.lreturn, 1)) (hr : ret = some .long) : W ws dn k y bytes ret pc ls [.long z] H Q = Q (some (.long z)) H := by
  subst hr; exact W_ret (by rw [act_c hd rfl rfl]; rfl)
theorem w_vret (hd : decode bytes pc = .ok (.return_, 1)) (hr : ret = none) : W ws dn k y bytes ret pc ls [] H Q = Q none H := by
  subst hr; exact W_ret (by rw [act_c hd rfl rfl]; rfl)
theorem w_obj {i sl : Nat} {a : Nat} (hd : decode bytes pc = .ok (.invokespecial i, 3)) (hr : oR ws dn y i = some sl) (hw : wsum st ≤ sl) : W ws dn k y bytes ret pc ls (.ref a :: st) H Q = W ws dn k y bytes ret (pc + 3) ls st H Q :=
  W_step (by rw [act_c hd rfl rfl]; simp only [cstep, chk, if_true, hr, hw])
theorem w_stat {i mx na sl : Nat} {y' : MethodName} {b : ByteArray} {r : Option FieldType} {as rest : List Value} {en : List Slot} (hd : decode bytes pc = .ok (.invokestatic i, 3)) (hr : sR ws dn y i = some (y', b, mx, r, na, sl)) (hn : as.length = na) (hw : wsum rest ≤ sl) (he : (ent as.reverse).length ≤ mx) (hen : entry as.reverse mx = en) :
    W ws dn k y bytes ret pc ls (as ++ rest) H Q = W ws dn k y' b r 0 en [] H (fun v H1 => W ws dn k y bytes ret (pc + 3) ls (v.toList ++ rest) H1 Q) := by
  subst hn hen
  have e1 : (as ++ rest).take as.length = as := by simp
  have e2 : (as ++ rest).drop as.length = rest := by simp
  exact W_call (by rw [act_c hd rfl rfl]; simp only [cstep, chk, if_true, hr, e1, e2, hw, he, List.length_append, Nat.le_add_right, and_self])
theorem w_spec {i mx na sl a : Nat} {y' : MethodName} {b : ByteArray} {r : Option FieldType} {as rest : List Value} {en : List Slot} (hd : decode bytes pc = .ok (.invokespecial i, 3)) (h0 : oR ws dn y i = none) (hr : nR ws dn y i = some (y', b, mx, r, na, sl)) (hn : as.length = na) (hw : wsum rest ≤ sl) (he : (ent (.ref a :: as.reverse)).length ≤ mx) (hen : entry (.ref a :: as.reverse) mx = en) :
    W ws dn k y bytes ret pc ls (as ++ .ref a :: rest) H Q = W ws dn k y' b r 0 en [] H (fun v H1 => W ws dn k y bytes ret (pc + 3) ls (v.toList ++ rest) H1 Q) := by
  subst hn hen
  have e1 : (as ++ .ref a :: rest).take as.length = as := by simp
  have e2 : (as ++ .ref a :: rest).drop as.length = .ref a :: rest := by simp
  exact W_call (by rw [act_c hd rfl rfl]; simp only [cstep, chk, if_true, h0, hr, e1, e2, hw, he, List.length_append, Nat.le_add_right, and_self])
theorem w_virt {i mx na sl a : Nat} {pv : Bool} {y' : MethodName} {b : ByteArray} {r : Option FieldType} {as rest : List Value} {en : List Slot} {C : String} {vs : List Value} (hd : decode bytes pc = .ok (.invokevirtual i, 3)) (hr : vR ws dn y i = some (pv, y', b, mx, r, na, sl)) (ho : H[a]? = some (.object C, vs)) (hC : C = y'.cls) (hn : as.length = na) (hw : wsum rest ≤ sl) (he : (ent (.ref a :: as.reverse)).length ≤ mx) (hen : entry (.ref a :: as.reverse) mx = en) :
    W ws dn k y bytes ret pc ls (as ++ .ref a :: rest) H Q = W ws dn k y' b r 0 en [] H (fun v H1 => W ws dn k y bytes ret (pc + 3) ls (v.toList ++ rest) H1 Q) := by
  subst hn hen hC
  have e1 : (as ++ .ref a :: rest).take as.length = as := by simp
  have e2 : (as ++ .ref a :: rest).drop as.length = .ref a :: rest := by simp
  exact W_call (by rw [act_c hd rfl rfl]; simp only [cstep, chk, if_true, hr, e1, e2, ho, hw, he, List.length_append, Nat.le_add_right, and_self, or_true])
end
theorem law_of {Z : State} {a0 : Array Value} {ws : Ws} {dn : Dn} {k sa n0 : Nat} (hw : ∀ d ∈ ws, d.before a0 Z = true) (l : Launch) {y : MethodName} {b : ByteArray} {mx f lc rc rs : Nat} {r : Option FieldType} (wsx : List Jvm.Cond) (hp : Jvm.plainName y.cls = true) {as : List Value} (he : (ent as).length ≤ mx) {H : AHeap}
    (hW : W ws dn k y b r 0 (entry as mx) [] H (fun v H1 => v = some (.int 1) ∧ H1.length - H.length ≤ rc ∧ tot ws H1 - tot ws H ≤ rs)) (hdn : ∀ f' l', dnOf dn y = some (f', l') → f' ≤ f ∧ l' ≤ lc) {h : Heap} (S : Sim Z ws k sa n0 H h) :
    MetFree l y (head1 (Jvm.Cond.code y b mx r :: wsx) ({ frames := f, cells := rc, slots := rs, locals := lc } : Room)) (fun a U => a = (as.map (ren (adr k sa n0))).toArray ∧ Z.Warmed39 U.vm ∧ U.heap = h) (fun _ _ _ _ _ => True)
      (fun _ U o U' => ∃ w L, o = .returned w ∧ (w = some (.int 1) ∧ Fr n0 L) ∧ FrameEnd U o U' L rc rs) := by
  obtain ⟨n, v, H1, h1, rfl, h3, h4⟩ := hW
  have M := met_of (snd hw n) l wsx hp he h1 hdn S h3 h4
  intro p e ha hc hk s m args below hf happ hP hK
  obtain ⟨n', o, g1, g2, g3, w, L, rfl, ⟨rfl, -, N⟩, F⟩ := M p e ha hc hk s m args below hf happ hP hK
  exact ⟨n', _, g1, g2, g3, _, L, rfl, ⟨rfl, N⟩, F.1, F.2.1, F.2.2.mono h3 h4⟩
/-- the start of a law whose arguments hold no reference -/
theorem Sim.empty (Z : State) (ws : Ws) (h : Heap) : Sim Z ws 0 0 h.size [] h :=
  ⟨by simp, Nat.le_refl _, Nat.zero_le _, (fun q => absurd q (by decide)), (fun i o q => by simp at q)⟩
/-- the start of a law over one array of ints -/
theorem Sim.script {Z : State} (ws : Ws) {h : Heap} {a : Addr} {c : Cell} {vs : List Int32} (A : Arr Z h a c .int) (e : c.slots = (vs.map Value.int).toArray) : Sim Z ws 1 a h.size [(.array .int, vs.map Value.int)] h := by
  refine ⟨by simp, Nat.le_refl _, Nat.le_refl _, fun _ => A.lt, fun i o q => ?_⟩
  cases i with
  | zero =>
    cases q
    refine ⟨c, A, e.trans ?_⟩
    rw [List.map_map]; rfl
  | succ i => cases q
end Jvm.Own
namespace Jvm.Own
open Sem ClassFile Op Lib Jvm.Stand Jvm.Free Jvm.LawKit Jvm.RoadKit
/-! OWN 7: states of an object as plain functions -/
def ou {α : Type} (s : Nat → α) (i : Nat) (v : α) : Nat → α := fun j => if j = i then v else s j
theorem ou_a {α : Type} (s : Nat → α) (i : Nat) (v : α) (j : Nat) : ou s i v j = if j = i then v else s j := rfl
def pad (b : Nat) (pre : AHeap) : AHeap := (pre ++ List.replicate b (FieldType.int, [])).take b
theorem pad_len (b : Nat) (pre : AHeap) : (pad b pre).length = b := by simp [pad]
theorem pad_eq {b : Nat} {pre : AHeap} (h : pre.length = b) : pad b pre = pre := by subst h; simp [pad]
theorem pad_0 (pre : AHeap) : pad 0 pre = [] := by simp [pad]
theorem tot_cons (ws : Ws) (o : FieldType × List Value) (r : AHeap) : tot ws (o :: r) = cost ws o + tot ws r := by simp [tot]
theorem tot_append (ws : Ws) (a r : AHeap) : tot ws (a ++ r) = tot ws a + tot ws r := by simp [tot]
theorem tot_nil (ws : Ws) : tot ws [] = 0 := rfl
theorem pad_get (b : Nat) (pre r : AHeap) (i : Nat) : (pad b pre ++ r)[b + i]? = r[i]? := by
  rw [List.getElem?_append_right (by rw [pad_len]; omega), pad_len]; congr 1; omega
theorem pad_get0 (b : Nat) (pre r : AHeap) : (pad b pre ++ r)[b]? = r[0]? := pad_get b pre r 0
theorem pad_set (b : Nat) (pre r : AHeap) (i : Nat) (o : FieldType × List Value) : (pad b pre ++ r).set (b + i) o = pad b pre ++ r.set i o := by
  rw [List.set_append_right _ _ (by rw [pad_len]; omega), pad_len]; congr 2; omega
theorem pad_set0 (b : Nat) (pre r : AHeap) (o : FieldType × List Value) : (pad b pre ++ r).set b o = pad b pre ++ r.set 0 o := pad_set b pre r 0 o
theorem rCode_of {ws : Ws} {y : MethodName} {b : ByteArray} {m i : Nat} {r : Option FieldType} (h : ws[i]? = some (.code y b m r)) (h2 : (ws.take i).all (fun d => match d with | .code z _ _ _ => !decide (z = y) | _ => true) = true) : rCode ws y = some (b, m, r) := by
  have e : ws = ws.take i ++ (.code y b m r :: ws.drop (i + 1)) := by
    obtain ⟨hi, hg⟩ := List.getElem?_eq_some_iff.mp h
    rw [← hg, ← List.drop_eq_getElem_cons hi, List.take_append_drop]
  unfold rCode
  rw [e, List.findSome?_append]
  have e1 : (ws.take i).findSome? (fun d => match d with | .code z b m r => if z = y then some (b, m, r) else none | _ => none) = none := by
    rw [List.findSome?_eq_none_iff]
    intro d hd
    have q := List.all_eq_true.mp h2 d hd
    split
    · rename_i z b' m' r'
      simp at q
      simp [q]
    · rfl
  rw [e1]
  simp
theorem cR_of {ws : Ws} {dn : Dn} {y y' : MethodName} {b : ByteArray} {mx i f' l' f l na sl : Nat} {r : Option FieldType} {sig : MethodDescriptor} (h1 : rMth ws y.cls i = some y') (h2 : rCode ws y' = some (b, mx, r)) (h3 : dnOf dn y' = some (f', l')) (h4 : dnOf dn y = some (f, l)) (h5 : parseMethodDescriptor y'.desc = some sig)
    (h6 : decide (hasInit ws y'.cls = true ∧ Jvm.plainName y'.cls = true ∧ y'.cls ≠ "java/lang/invoke/MethodHandle" ∧ y'.cls ≠ "java/lang/invoke/VarHandle" ∧ f' + 1 ≤ f ∧ mx + 11 + l' ≤ l) = true) (h7 : sig.parameters.length = na) (h8 : l - (mx + 11 + l') = sl) : cR ws dn y i = some (y', b, mx, r, na, sl) := by
  subst h7 h8
  unfold cR
  rw [h1]; dsimp only
  rw [h2, h3, h4, h5]; dsimp only
  rw [if_pos (of_decide_eq_true h6)]
theorem sR_of {ws : Ws} {dn : Dn} {y : MethodName} {i : Nat} {q : MethodName × ByteArray × Nat × Option FieldType × Nat × Nat} (h : cR ws dn y i = some q) (hs : hasStat ws q.1 = true) : sR ws dn y i = some q := by
  unfold sR; rw [h]; dsimp only; rw [if_pos hs]
theorem nR_of {ws : Ws} {dn : Dn} {y : MethodName} {i : Nat} {q : MethodName × ByteArray × Nat × Option FieldType × Nat × Nat} (h : cR ws dn y i = some q) (h1 : q.1.name = "<init>") (h2 : hasIM ws q.1 = true) (h3 : q.2.2.2.1 = none) : nR ws dn y i = some q := by
  unfold nR; rw [h]; dsimp only; rw [if_pos ⟨h1, h2, h3⟩]
theorem vR_of {ws : Ws} {dn : Dn} {y : MethodName} {i : Nat} {q : MethodName × ByteArray × Nat × Option FieldType × Nat × Nat} (h : cR ws dn y i = some q) (h1 : hasIM ws q.1 = true) (h2 : decide (hasPriv ws q.1 = true ∧ (rInst ws q.1.cls).isSome = true) = false) (h3 : decide (hasDecl ws q.1 = true ∧ hasSel ws q.1 = true) = true) : vR ws dn y i = some (false, q) := by
  unfold vR; rw [h]; dsimp only; rw [if_pos h1, if_neg (of_decide_eq_false h2), if_pos (of_decide_eq_true h3)]
theorem pR_of {ws : Ws} {dn : Dn} {y : MethodName} {i : Nat} {q : MethodName × ByteArray × Nat × Option FieldType × Nat × Nat} (h : cR ws dn y i = some q) (h1 : hasIM ws q.1 = true) (h2 : decide (hasPriv ws q.1 = true ∧ (rInst ws q.1.cls).isSome = true) = true) : vR ws dn y i = some (true, q) := by
  unfold vR; rw [h]; dsimp only; rw [if_pos h1, if_pos (of_decide_eq_true h2)]
def inB {α : Type} (j : Int32) (l : List α) : Prop := ¬ j < 0 ∧ j.toNatClampNeg < l.length
def getA (l : List Int32) (j : Int32) : Int32 := l.getD j.toNatClampNeg 0
def getL (l : List Int64) (j : Int32) : Int64 := l.getD j.toNatClampNeg 0
def setA {α : Type} (l : List α) (j : Int32) (v : α) : List α := l.set j.toNatClampNeg v
def c1 : Slot → Bool
  | .unset => true
  | .second => false
  | .val v => v.category == 1
theorem c1_u : c1 .unset = true := rfl
theorem c1_i (x : Int32) : c1 (.val (.int x)) = true := rfl
theorem c1_r (a : Nat) : c1 (.val (.ref a)) = true := rfl
theorem c1_n : c1 (.val .null) = true := rfl
theorem i_eq (x y : Int32) : if_icmp.holds .eq x y = decide (x = y) := by simp only [if_icmp.holds]; by_cases h : x = y <;> simp [h]
theorem i_ne (x y : Int32) : if_icmp.holds .ne x y = !decide (x = y) := by simp only [if_icmp.holds]; by_cases h : x = y <;> simp [h]
theorem i_lt (x y : Int32) : if_icmp.holds .lt x y = decide (x < y) := rfl
theorem i_gt (x y : Int32) : if_icmp.holds .gt x y = decide (y < x) := rfl
theorem i_ge (x y : Int32) : if_icmp.holds .ge x y = !decide (x < y) := by
  show decide (y ≤ x) = _
  have e1 : (y ≤ x) ↔ ¬ (x < y) := by rw [Int32.le_iff_toInt_le, Int32.lt_iff_toInt_lt]; omega
  by_cases h : x < y
  · have : ¬ y ≤ x := fun g => e1.mp g h
    simp [h, this]
  · have := e1.mpr h
    simp [h, this]
theorem i_le (x y : Int32) : if_icmp.holds .le x y = !decide (y < x) := i_ge y x
theorem z_eq (x : Int32) : ifCond.holds .eq x = decide (x = 0) := i_eq x 0
theorem z_ne (x : Int32) : ifCond.holds .ne x = !decide (x = 0) := i_ne x 0
theorem z_lt (x : Int32) : ifCond.holds .lt x = decide (x < 0) := rfl
theorem z_gt (x : Int32) : ifCond.holds .gt x = decide (0 < x) := rfl
theorem z_ge (x : Int32) : ifCond.holds .ge x = !decide (x < 0) := i_ge x 0
theorem z_le (x : Int32) : ifCond.holds .le x = !decide (0 < x) := i_le x 0
theorem nb0 : nar .boolean 0 = 0 := by decide
theorem nb1 : nar .boolean 1 = 1 := by decide
section
variable {ws : Ws} {dn : Dn} {k : Nat} {y : MethodName} {bytes : ByteArray} {ret : Option FieldType} {pc : Nat} {ls : List Slot} {st : List Value} {H : AHeap} {Q : Option Value → AHeap → Prop}
theorem W_stuck (h : act ws dn k y bytes ret pc ls st H = none) : W ws dn k y bytes ret pc ls st H Q = False := by
  refine propext ⟨fun ⟨n, v, H1, h1, h2⟩ => ?_, False.elim⟩
  cases n with
  | zero => cases h1
  | succ n => rw [run, h] at h1; cases h1
theorem stl_c1 {i : Nat} {o : Slot} {v : Value} (ho : ls[i]? = some o) (hc : c1 o = true) (hv : v.category = 1) : stl ls i v = some (ls.set i (.val v)) := by
  have h := XS.store1 (l := ls.toArray) (i := i) (v := v) (o := o) (by simpa using ho) (by
    cases o with
    | unset => exact Or.inl rfl
    | second => cases hc
    | val w => exact Or.inr ⟨w, rfl, by simpa [c1] using hc⟩) hv
  unfold stl
  rw [h]; simp
/-- a store of one word -/
theorem w_st {ins : Instr} {len i : Nat} {o : Slot} {v : Value} {p : Value → Bool} {nx : Nat} {ls' : List Slot} (hd : decode bytes pc = .ok (ins, len)) (hx : xstep ins len pc ls (v :: st) = stV p nx i ls (v :: st)) (hp : p v = true) (hv : v.category = 1) (ho : ls[i]? = some o) (hs : ls.set i (.val v) = ls') (hc : c1 o = true) :
    W ws dn k y bytes ret pc ls (v :: st) H Q = W ws dn k y bytes ret nx ls' st H Q := by
  subst hs
  exact w_x hd (by rw [hx]; simp only [stV, hp, if_true, stl_c1 ho hc hv, Option.map_some])
theorem w_iinc {i : Nat} {c : Int} {x z : Int32} {ls' : List Slot} (hd : decode bytes pc = .ok (.iinc i c, 3)) (ho : ls[i]? = some (.val (.int x))) (hz : Int32.ofInt c = z) (hs : ls.set i (.val (.int (x + z))) = ls') :
    W ws dn k y bytes ret pc ls st H Q = W ws dn k y bytes ret (pc + 3) ls' st H Q := by
  subst hs hz
  exact w_x hd (by simp only [xstep, chk, if_true, ho, stl_c1 (v := .int (x + Int32.ofInt c)) ho rfl rfl, Option.map_some])
theorem w_con {ins : Instr} {len nx : Nat} {v v' : Value} (hd : decode bytes pc = .ok (ins, len)) (hx : xstep ins len pc ls st = some (nx, ls, v :: st)) (hv : v = v') : W ws dn k y bytes ret pc ls st H Q = W ws dn k y bytes ret nx ls (v' :: st) H Q := by
  subst hv; exact w_x hd hx
theorem w_ifN {cd : ClassFile.Cond} {o : Int} {x : Int32} {t : Nat} {P : Prop} [Decidable P] (hd : decode bytes pc = .ok (.ifCond cd o, 3)) (hp : ifCond.holds cd x = !decide P) (hj : jmp pc o = some t) :
    W ws dn k y bytes ret pc ls (.int x :: st) H Q = if P then W ws dn k y bytes ret (pc + 3) ls st H Q else W ws dn k y bytes ret t ls st H Q := by
  split
  · exact w_x hd (by simp only [xstep, chk, br, hp, hj, if_true]; simp [*])
  · exact w_x hd (by simp only [xstep, chk, br, hp, hj, if_true]; simp [*])
theorem w_icmpN {cd : ClassFile.Cond} {o : Int} {x1 x2 : Int32} {t : Nat} {P : Prop} [Decidable P] (hd : decode bytes pc = .ok (.if_icmp cd o, 3)) (hp : if_icmp.holds cd x1 x2 = !decide P) (hj : jmp pc o = some t) :
    W ws dn k y bytes ret pc ls (.int x2 :: .int x1 :: st) H Q = if P then W ws dn k y bytes ret (pc + 3) ls st H Q else W ws dn k y bytes ret t ls st H Q := by
  split
  · exact w_x hd (by simp only [xstep, chk, br, hp, hj, if_true]; simp [*])
  · exact w_x hd (by simp only [xstep, chk, br, hp, hj, if_true]; simp [*])
theorem ld_stuck {ins : Instr} {a : Nat} {j : Int32} {ty : FieldType} {vs : List Value} (hd : decode bytes pc = .ok (ins, 1)) (hi : ldOk ins ty = true) (ho : H[a]? = some (.array ty, vs)) (hj : ¬ (¬ j < 0 ∧ j.toNatClampNeg < vs.length)) : act ws dn k y bytes ret pc ls (.int j :: .ref a :: st) H = none := by
  have hv : j < 0 ∨ vs[j.toNatClampNeg]? = none := by
    by_cases q : j < 0
    · exact Or.inl q
    · exact Or.inr (List.getElem?_eq_none (Nat.le_of_not_lt fun g => hj ⟨q, g⟩))
  unfold ldOk at hi
  split at hi
  all_goals first
    | (rw [act_c hd rfl (by rcases hv with q | q <;> simp [hstep, chk, hLd, okT, okB, ho, q])]; rfl)
    | cases hi
theorem st_stuck {ins : Instr} {a : Nat} {j : Int32} {ty : FieldType} {vs : List Value} {v : Value} (hd : decode bytes pc = .ok (ins, 1)) (hi : stOk ins ty = true) (ho : H[a]? = some (.array ty, vs)) (hj : ¬ (¬ j < 0 ∧ j.toNatClampNeg < vs.length)) : act ws dn k y bytes ret pc ls (v :: .int j :: .ref a :: st) H = none := by
  have hv : ¬ (¬ j < 0 ∧ j.toNatClampNeg < vs.length) := hj
  unfold stOk at hi
  split at hi
  all_goals first
    | (rw [act_c hd rfl (by simp only [hstep, chk, hSt, okT, okB, ho, if_true]; rw [if_neg (fun q => hv q.2.2)])]; rfl)
    | cases hi
theorem w_ild {ins : Instr} {a : Nat} {j : Int32} {ty : FieldType} {l : List Int32} (hd : decode bytes pc = .ok (ins, 1)) (hi : ldOk ins ty = true) (ho : H[a]? = some (.array ty, l.map Value.int)) :
    W ws dn k y bytes ret pc ls (.int j :: .ref a :: st) H Q = (inB j l ∧ W ws dn k y bytes ret (pc + 1) ls (.int (getA l j) :: st) H Q) := by
  by_cases h : inB j l
  · rw [w_ald hd hi ho h.1 (v := .int (getA l j)) (by simp [getA, h.2])]
    simp [h]
  · rw [W_stuck (ld_stuck hd hi ho (by simpa [inB] using h))]
    simp [h]
theorem w_lld {a : Nat} {j : Int32} {l : List Int64} (hd : decode bytes pc = .ok (.laload, 1)) (ho : H[a]? = some (.array .long, l.map Value.long)) :
    W ws dn k y bytes ret pc ls (.int j :: .ref a :: st) H Q = (inB j l ∧ W ws dn k y bytes ret (pc + 1) ls (.long (getL l j) :: st) H Q) := by
  by_cases h : inB j l
  · rw [w_ald hd rfl ho h.1 (v := .long (getL l j)) (by simp [getL, h.2])]
    simp [h]
  · rw [W_stuck (ld_stuck hd rfl ho (by simpa [inB] using h))]
    simp [h]
theorem w_ist {ins : Instr} {a : Nat} {j v v' : Int32} {ty : FieldType} {l : List Int32} {H' : AHeap} (hd : decode bytes pc = .ok (ins, 1)) (hi : stOk ins ty = true) (ho : H[a]? = some (.array ty, l.map Value.int)) (hk : k ≤ a) (hv : putv ty (.int v) = some (.int v')) (hH : H.set a (.array ty, (setA l j v').map Value.int) = H') :
    W ws dn k y bytes ret pc ls (.int v :: .int j :: .ref a :: st) H Q = (inB j l ∧ W ws dn k y bytes ret (pc + 1) ls st H' Q) := by
  by_cases h : inB j l
  · rw [w_ast (H' := H') hd hi ho hk h.1 (by simpa using h.2) hv (by rw [← hH, setA, List.map_set])]
    simp [h]
  · rw [W_stuck (st_stuck hd hi ho (by simpa [inB] using h))]
    simp [h]
theorem w_lst {a : Nat} {j : Int32} {v : Int64} {l : List Int64} {H' : AHeap} (hd : decode bytes pc = .ok (.lastore, 1)) (ho : H[a]? = some (.array .long, l.map Value.long)) (hk : k ≤ a) (hH : H.set a (.array .long, (setA l j v).map Value.long) = H') :
    W ws dn k y bytes ret pc ls (.long v :: .int j :: .ref a :: st) H Q = (inB j l ∧ W ws dn k y bytes ret (pc + 1) ls st H' Q) := by
  by_cases h : inB j l
  · rw [w_ast (H' := H') hd rfl ho hk h.1 (by simpa using h.2) rfl (by rw [← hH, setA, List.map_set])]
    simp [h]
  · rw [W_stuck (st_stuck hd rfl ho (by simpa [inB] using h))]
    simp [h]
theorem w_div {ins : Instr} {f : Int32 → Int32 → Int32} {x z : Int32} (hd : decode bytes pc = .ok (ins, 1)) (hx : ∀ st, xstep ins 1 pc ls st = d2 f (pc + 1) ls st) (hh : hstep ws k y ins 1 pc (.int z :: .int x :: st) H = none) (hc : cstep ws dn y ret ins 1 pc ls (.int z :: .int x :: st) H = none) :
    W ws dn k y bytes ret pc ls (.int z :: .int x :: st) H Q = (z ≠ 0 ∧ W ws dn k y bytes ret (pc + 1) ls (.int (f x z) :: st) H Q) := by
  by_cases h : z = 0
  · rw [W_stuck (by rw [act_c hd (by rw [hx]; simp [d2, h]) hh, hc])]; simp [h]
  · rw [w_x (pc' := pc + 1) (ls' := ls) (st' := .int (f x z) :: st) hd (by rw [hx]; simp only [d2, h, if_false])]; simp [h]
/-- a field's array made in a constructor -/
theorem w_iarr {i j p1 p2 p3 : Nat} {C : String} {vs : List Value} {r : AHeap} {n : Int32} {v : Value} {aty : ArrayType} {ty at' : FieldType} {l0 : Slot} {lr : List Slot} {ins : Instr} {len : Nat} {b : Nat} (hl : l0 = .val (.ref b)) (hH : H.length = b) (hk : k ≤ b)
    (d0 : decode bytes pc = .ok (.aload_n 0, 1)) (e0 : pc + 1 = p1) (dn1 : decode bytes p1 = .ok (ins, len)) (hx : ∀ st, xstep ins len p1 (l0 :: lr) st = some (p2, l0 :: lr, v :: st)) (hv : v = .int n) (d2' : decode bytes p2 = .ok (.newarray aty, 2)) (ht : newarray.typeOf aty = ty) (hr : hasArr ws ty = true) (hn : ¬ n < 0) (hb : n.toNatClampNeg * 8 ≤ 536870912) (e3 : p2 + 2 = p3)
    (d3 : decode bytes p3 = .ok (.putfield i, 3)) (hp : pfR ws y.cls y.name i = some (C, j, .array at')) (hj : j < vs.length) :
    W ws dn k y bytes ret pc (l0 :: lr) [] (H ++ (.object C, vs) :: r) Q = W ws dn k y bytes ret (p3 + 3) (l0 :: lr) [] (H ++ (.object C, vs.set j (.ref (b + (r.length + 1)))) :: (r ++ [(.array ty, List.replicate n.toNatClampNeg (defaultValue ty))])) Q := by
  subst hl e0 e3 hv hH
  rw [w_x d0 (ls' := .val (.ref H.length) :: lr) (st' := [.ref H.length]) (pc' := pc + 1) rfl, w_x dn1 (hx _), w_newA d2' ht hr hn hb]
  have e1 : (H ++ (FieldType.object C, vs) :: r).length = H.length + (r.length + 1) := by simp
  rw [e1, w_put d3 hp (vs := vs) (H' := H ++ (.object C, vs.set j (.ref (H.length + (r.length + 1)))) :: (r ++ [(.array ty, List.replicate n.toNatClampNeg (defaultValue ty))])) (by simp) hk hj rfl (by simp)]
/-- a field's plain value put at a constructor's head -/
theorem w_iint {i j p1 p2 : Nat} {C : String} {vs : List Value} {r : AHeap} {v v0 v' : Value} {ty : FieldType} {l0 : Slot} {lr : List Slot} {ins : Instr} {len : Nat} {b : Nat} (hl : l0 = .val (.ref b)) (hH : H.length = b) (hk : k ≤ b)
    (d0 : decode bytes pc = .ok (.aload_n 0, 1)) (e0 : pc + 1 = p1) (dn1 : decode bytes p1 = .ok (ins, len)) (hx : ∀ st, xstep ins len p1 (l0 :: lr) st = some (p2, l0 :: lr, v0 :: st)) (hv : v0 = v)
    (d3 : decode bytes p2 = .ok (.putfield i, 3)) (hp : pfR ws y.cls y.name i = some (C, j, ty)) (hv' : putv ty v = some v') (hj : j < vs.length) :
    W ws dn k y bytes ret pc (l0 :: lr) [] (H ++ (.object C, vs) :: r) Q = W ws dn k y bytes ret (p2 + 3) (l0 :: lr) [] (H ++ (.object C, vs.set j v') :: r) Q := by
  subst hl e0 hv hH
  rw [w_x d0 (ls' := .val (.ref H.length) :: lr) (st' := [.ref H.length]) (pc' := pc + 1) rfl, w_x dn1 (hx _)]
  rw [w_put d3 hp (vs := vs) (H' := H ++ (.object C, vs.set j v') :: r) (by simp) hk hj hv' (by simp)]
end
end Jvm.Own
namespace Jvm.Own
open Sem ClassFile Op Lib Jvm.Stand Jvm.Free Jvm.LawKit Jvm.RoadKit
theorem getA_rep (n : Nat) (j : Int32) : getA (List.replicate n 0) j = 0 := by
  simp only [getA, List.getD_eq_getElem?_getD, List.getElem?_replicate]
  split <;> rfl
/-- the array's words as plain ints -/
theorem script_of {s : State} {a : Addr} {c : Cell} (hf : Fit s) (A : Arr s s.heap a c .int) (hl : c.slots.size < 2 ^ 31) : ∃ vs : List Int32, c.slots = (vs.map Value.int).toArray := by
  have h : ∀ v ∈ c.slots.toList, ∃ x : Int32, v = .int x := fun v hv => by
    obtain ⟨i, hi, e⟩ := List.getElem_of_mem hv
    have hi' : i < c.slots.size := by simpa using hi
    have e1 : (Nat.toInt32 i).toNatClampNeg = i := by simp only [Int32.toNatClampNeg, len_toInt (Nat.lt_trans hi' hl)]; rfl
    obtain ⟨w, h1, h2⟩ := elem_fit hf A (idx_in hi' hl)
    rw [e1] at h1
    have : w = v := by rw [Array.getElem?_eq_getElem hi'] at h1; rw [← e]; simpa using (Option.some.inj h1).symm
    subst this
    exact fit_I h2 (by simp)
  have g : ∀ l : List Value, (∀ v ∈ l, ∃ x : Int32, v = .int x) → ∃ vs : List Int32, l = vs.map Value.int := fun l => by
    induction l with
    | nil => exact fun _ => ⟨[], rfl⟩
    | cons v r ih =>
      intro q
      obtain ⟨x, rfl⟩ := q _ (List.mem_cons_self ..)
      obtain ⟨vs, e⟩ := ih fun w hw => q w (List.mem_cons_of_mem _ hw)
      exact ⟨x :: vs, by rw [e]; rfl⟩
  obtain ⟨vs, e⟩ := g _ h
  exact ⟨vs, by rw [← e]⟩
end Jvm.Own
namespace Jvm.Own
open Sem ClassFile Op Lib Jvm.Stand Jvm.Free Jvm.LawKit Jvm.RoadKit
/-! OWN 8: small facts on arrays and ints -/
theorem toNat_eq (j : Int32) : j.toNatClampNeg = j.toInt.toNat := rfl
theorem lt_i {x y : Int32} : x < y ↔ x.toInt < y.toInt := Int32.lt_iff_toInt_lt
theorem inB_iff {α : Type} {j : Int32} {l : List α} : inB j l ↔ 0 ≤ j.toInt ∧ j.toInt < (l.length : Int) := by
  have e0 : (0 : Int32).toInt = 0 := rfl
  unfold inB
  rw [lt_i, toNat_eq, e0]
  omega
theorem inB_lt {α : Type} {j n : Int32} {l : List α} (hl : (l.length : Int) = n.toInt) (h0 : ¬ j < 0) (h1 : j < n) : inB j l := by
  have e0 : (0 : Int32).toInt = 0 := rfl
  rw [inB_iff]
  rw [lt_i] at h0 h1
  rw [e0] at h0
  omega
theorem setA_len {α : Type} (l : List α) (j : Int32) (v : α) : (setA l j v).length = l.length := List.length_set
theorem getA_set {l : List Int32} {i j v : Int32} (h : inB i l) : getA (setA l i v) j = if j.toNatClampNeg = i.toNatClampNeg then v else getA l j := by
  simp only [getA, setA, List.getD_eq_getElem?_getD, List.getElem?_set]
  by_cases e : j.toNatClampNeg = i.toNatClampNeg
  · rw [e]; simp [h.2]
  · simp [e, Ne.symm e]
theorem getA_set2 (l : List Int32) (i j v : Int32) : getA (setA l i v) j = if j.toNatClampNeg = i.toNatClampNeg ∧ i.toNatClampNeg < l.length then v else getA l j := by
  simp only [getA, setA, List.getD_eq_getElem?_getD, List.getElem?_set]
  by_cases e : j.toNatClampNeg = i.toNatClampNeg
  · rw [e]
    by_cases q : i.toNatClampNeg < l.length <;> simp [q]
  · simp [e, Ne.symm e]
theorem len_ou {B A : Nat → List Int32} {j : Nat} {l : List Int32} (h : ∀ i, (A i).length = (B i).length) (hl : l.length = (B j).length) : ∀ i, (ou A j l i).length = (B i).length := fun i => by
  rw [ou_a]
  split
  · rename_i e; rw [e]; exact hl
  · exact h i
end Jvm.Own
namespace Jvm.Own
open Sem ClassFile Op Lib Jvm.Stand Jvm.Free Jvm.LawKit Jvm.RoadKit
/-! OWN 9: a normal form of states; masks and ranges -/
theorem ou_same {α : Type} (s : Nat → α) (i : Nat) (v w : α) : ou (ou s i v) i w = ou s i w := by
  funext j
  simp only [ou_a]
  by_cases h : j = i <;> simp [h]
theorem ou_comm {α : Type} {s : Nat → α} {i j : Nat} {v w : α} (h : j < i) : ou (ou s i v) j w = ou (ou s j w) (i + 0) v := by
  show ou (ou s i v) j w = ou (ou s j w) i v
  funext k
  simp only [ou_a]
  by_cases h1 : k = j
  · have h2 : ¬ k = i := by omega
    simp [h1]
    intro h3; omega
  · simp [h1]
theorem setA_same {α : Type} (l : List α) (i : Int32) (v w : α) : setA (setA l i v) i w = setA l i w := by
  simp only [setA, List.set_set]
theorem clamp_ne {i j : Int32} (h0 : ¬ j < 0) (h : j < i) : j.toNatClampNeg ≠ i.toNatClampNeg := by
  have e0 : (0 : Int32).toInt = 0 := rfl
  rw [lt_i] at *
  rw [toNat_eq, toNat_eq]
  omega
theorem setA_comm {α : Type} {l : List α} {i j : Int32} {v w : α} (h0 : ¬ j < 0) (h : j < i) : setA (setA l i v) j w = setA (setA l j w) (i + 0) v := by
  rw [Int32.add_zero]
  simp only [setA]
  exact List.set_comm _ _ (Ne.symm (clamp_ne h0 h))
theorem lt_irr (x : Int32) : (x < x) = False := by
  apply propext
  rw [lt_i]
  constructor
  · intro h; omega
  · exact False.elim
theorem bit1 (x : Int32) : x &&& 1 = 0 ∨ x &&& 1 = 1 := by
  have h : (x &&& 1).toBitVec.toNat = x.toBitVec.toNat % 2 := by
    rw [Int32.toBitVec_and, BitVec.toNat_and]
    exact Nat.and_one_is_mod _
  rcases Nat.mod_two_eq_zero_or_one x.toBitVec.toNat with e | e
  · exact Or.inl (Int32.toBitVec_inj.mp (BitVec.eq_of_toNat_eq (by rw [h, e]; rfl)))
  · exact Or.inr (Int32.toBitVec_inj.mp (BitVec.eq_of_toNat_eq (by rw [h, e]; rfl)))
theorem and_bd (x m : Int32) (hm : m.toBitVec.toNat < 2147483648) : 0 ≤ (x &&& m).toInt ∧ (x &&& m).toInt ≤ (m.toBitVec.toNat : Int) := by
  have h : (x &&& m).toBitVec.toNat ≤ m.toBitVec.toNat := by
    rw [Int32.toBitVec_and, BitVec.toNat_and]
    exact Nat.and_le_right
  have e : (x &&& m).toInt = ((x &&& m).toBitVec.toNat : Int) := BitVec.toInt_eq_toNat_of_lt (by omega)
  rw [e]
  omega
theorem rng {x : Int32} {n : Nat} (h0 : 0 ≤ x.toInt) (h1 : x.toInt < n) : ∃ k, k < n ∧ x = Int32.ofNat k := by
  have e : (x.toInt.toNat : Int) = x.toInt := Int.toNat_of_nonneg h0
  refine ⟨x.toInt.toNat, by omega, ?_⟩
  have e2 : Int32.ofNat x.toInt.toNat = Int32.ofInt (x.toInt.toNat : Int) := rfl
  rw [e2, e, Int32.ofInt_toInt]
theorem getL_rep (n : Nat) (j : Int32) : getL (List.replicate n 0) j = 0 := by
  simp only [getL, List.getD_eq_getElem?_getD, List.getElem?_replicate]
  split <;> rfl
theorem getL_set2 (l : List Int64) (i j : Int32) (v : Int64) : getL (setA l i v) j = if j.toNatClampNeg = i.toNatClampNeg ∧ i.toNatClampNeg < l.length then v else getL l j := by
  simp only [getL, setA, List.getD_eq_getElem?_getD, List.getElem?_set]
  by_cases e : j.toNatClampNeg = i.toNatClampNeg
  · rw [e]
    by_cases q : i.toNatClampNeg < l.length <;> simp [q]
  · simp [e, Ne.symm e]
theorem add_i {a b : Int32} (h : -2147483648 ≤ a.toInt + b.toInt) (h' : a.toInt + b.toInt < 2147483648) : (a + b).toInt = a.toInt + b.toInt := by
  rw [Int32.toInt_add]
  have e : ((2 ^ 32 : Nat) : Int) = 4294967296 := rfl
  exact Int.bmod_eq_of_le (by rw [e]; omega) (by rw [e]; omega)
theorem sub_i {a b : Int32} (h : -2147483648 ≤ a.toInt - b.toInt) (h' : a.toInt - b.toInt < 2147483648) : (a - b).toInt = a.toInt - b.toInt := by
  rw [Int32.toInt_sub]
  have e : ((2 ^ 32 : Nat) : Int) = 4294967296 := rfl
  exact Int.bmod_eq_of_le (by rw [e]; omega) (by rw [e]; omega)
theorem mul_i {a b : Int32} (h : -2147483648 ≤ a.toInt * b.toInt) (h' : a.toInt * b.toInt < 2147483648) : (a * b).toInt = a.toInt * b.toInt := by
  rw [Int32.toInt_mul]
  have e : ((2 ^ 32 : Nat) : Int) = 4294967296 := rfl
  exact Int.bmod_eq_of_le (by rw [e]; omega) (by rw [e]; omega)
theorem i_0 : (0 : Int32).toInt = 0 := rfl
theorem i_1 : (1 : Int32).toInt = 1 := rfl
theorem add1_i {a : Int32} (h : a.toInt < 2147483647) : (a + 1).toInt = a.toInt + 1 := by
  have := Int32.le_toInt a
  exact add_i (by rw [i_1]; omega) (by rw [i_1]; omega)
theorem nn_i {a : Int32} : ¬ a < 0 ↔ 0 ≤ a.toInt := by rw [lt_i, i_0]; omega
theorem succ_nn {a : Int32} (h0 : ¬ a < 0) (h : a.toInt < 2147483647) : ¬ a + 1 < 0 := by
  rw [nn_i] at *
  rw [add1_i h]
  omega
theorem inB_set {α : Type} {l : List α} {i j : Int32} {v : α} : inB j (setA l i v) = inB j l := by
  simp only [inB, setA_len]
theorem pad_1 (c : FieldType × List Value) : pad 1 [c] = [c] := rfl
def okS (l : Slot) : Prop := l = .unset ∨ ∃ z : Int32, l = .val (.int z)
theorem okS_u : okS .unset := Or.inl rfl
theorem okS_i (z : Int32) : okS (.val (.int z)) := Or.inr ⟨z, rfl⟩
end Jvm.Own
namespace Jvm.Pilot.@@N@@
open Jvm Jvm.ClassFile Sem Op Lib Jvm.Free Jvm.Stand Jvm.LawKit Jvm.RoadKit Bundle Jvm.Own Jvm.Pilot.@@N@@.Jvm.D
/-- frames and words that each method asks -/
def dn : Dn := [(⟨"SuffixAutomat", "<init>", "(II)V"⟩, 2, 27), (⟨"SuffixAutomat", "resetAutomaton", "()V"⟩, 1, 15), (⟨"SuffixAutomat", "clearState", "(I)V"⟩, 0, 0), (⟨"SuffixAutomat", "length", "()I"⟩, 0, 0), (⟨"SuffixAutomat", "patternLength", "()I"⟩, 0, 0), (⟨"SuffixAutomat", "occurrences", "()I"⟩, 2, 30), (⟨"SuffixAutomat", "contains", "()Z"⟩, 1, 16), (⟨"SuffixAutomat", "firstOccurrence", "()I"⟩, 1, 16), (⟨"SuffixAutomat", "append", "(I)Z"⟩, 3, 52), (⟨"SuffixAutomat", "extend", "(I)V"⟩, 2, 36), (⟨"SuffixAutomat", "addEdges", "(III)I"⟩, 0, 0), (⟨"SuffixAutomat", "pushPattern", "(I)Z"⟩, 0, 0), (⟨"SuffixAutomat", "symbolAt", "(I)I"⟩, 0, 0), (⟨"SuffixAutomat", "walkPattern", "()I"⟩, 0, 0), (⟨"SuffixAutomat", "ensureCounts", "()V"⟩, 1, 15), (⟨"SuffixAutomat", "sortByLength", "()V"⟩, 0, 0), (⟨"SuffixAutomat", "clearOther", "()V"⟩, 0, 0), (⟨"SuffixAutomat", "pushOther", "(I)Z"⟩, 0, 0), (⟨"SuffixAutomat", "clearPattern", "()V"⟩, 0, 0), (⟨"SuffixAutomat", "splitState", "(IIII)V"⟩, 1, 15), (⟨"SuffixAutomat", "reset", "()V"⟩, 2, 27), (⟨"SuffixAutomatOwnLaw", "cell", "([II)I"⟩, 0, 0), (⟨"SuffixAutomatOwnLaw", "mod", "(II)I"⟩, 0, 0), (⟨"SuffixAutomatOwnLaw", "clampAlpha", "(I)I"⟩, 0, 0), (⟨"SuffixAutomatOwnLaw", "get", "(JJJJI)I"⟩, 0, 0), (⟨"SuffixAutomatOwnLaw", "law", "([I)Z"⟩, 4, 65)]
/- scalars: 0=alpha 1=cap 2=n 3=m 4=q 5=size 6=last 7=distinct 8=countsValid 9=lcsLen 10=lcsEnd; arrays: 0=text@1 1=pat@2 2=oth@3 3=next@4 4=link@5 5=len@6 6=firstEnd@7 7=cloned@8 8=cnt@9 9=order@10 10=bucket@11; longs: []; long arrays: [] -/
def objv (b : Nat) (s : Nat → Int32) : List Value := [.ref (b + 1), .ref (b + 2), .ref (b + 3), .ref (b + 4), .ref (b + 5), .ref (b + 6), .ref (b + 7), .ref (b + 8), .ref (b + 9), .ref (b + 10), .ref (b + 11), .int (s 0), .int (s 1), .int (s 2), .int (s 3), .int (s 4), .int (s 5), .int (s 6), .int (s 7), .int (s 8)]
def put (b : Nat) (pre : AHeap) (s : Nat → Int32) (A : Nat → List Int32) (post : AHeap) : AHeap := pad b pre ++ ((.object "SuffixAutomat", objv b s) :: (.array .int, (A 0).map Value.int) :: (.array .int, (A 1).map Value.int) :: (.array .int, (A 2).map Value.int) :: (.array .int, (A 3).map Value.int) :: (.array .int, (A 4).map Value.int) :: (.array .int, (A 5).map Value.int) :: (.array .int, (A 6).map Value.int) :: (.array .boolean, (A 7).map Value.int) :: (.array .int, (A 8).map Value.int) :: (.array .int, (A 9).map Value.int) :: (.array .int, (A 10).map Value.int) :: post)
theorem put_o {b : Nat} {pre : AHeap} {s : Nat → Int32} {A : Nat → List Int32} {post : AHeap} : (put b pre s A post)[b]? = some (.object "SuffixAutomat", objv b s) := pad_get0 _ _ _
theorem put_a0 {b : Nat} {pre : AHeap} {s : Nat → Int32} {A : Nat → List Int32} {post : AHeap} : (put b pre s A post)[b + 1]? = some (.array .int, (A 0).map Value.int) := pad_get _ _ _ 1
theorem put_w0 {b : Nat} {pre : AHeap} {s : Nat → Int32} {A : Nat → List Int32} {post : AHeap} {l : List Int32} : (put b pre s A post).set (b + 1) (.array .int, l.map Value.int) = put b pre s (ou A 0 l) post := pad_set _ _ _ 1 _
theorem put_a1 {b : Nat} {pre : AHeap} {s : Nat → Int32} {A : Nat → List Int32} {post : AHeap} : (put b pre s A post)[b + 2]? = some (.array .int, (A 1).map Value.int) := pad_get _ _ _ 2
theorem put_w1 {b : Nat} {pre : AHeap} {s : Nat → Int32} {A : Nat → List Int32} {post : AHeap} {l : List Int32} : (put b pre s A post).set (b + 2) (.array .int, l.map Value.int) = put b pre s (ou A 1 l) post := pad_set _ _ _ 2 _
theorem put_a2 {b : Nat} {pre : AHeap} {s : Nat → Int32} {A : Nat → List Int32} {post : AHeap} : (put b pre s A post)[b + 3]? = some (.array .int, (A 2).map Value.int) := pad_get _ _ _ 3
theorem put_w2 {b : Nat} {pre : AHeap} {s : Nat → Int32} {A : Nat → List Int32} {post : AHeap} {l : List Int32} : (put b pre s A post).set (b + 3) (.array .int, l.map Value.int) = put b pre s (ou A 2 l) post := pad_set _ _ _ 3 _
theorem put_a3 {b : Nat} {pre : AHeap} {s : Nat → Int32} {A : Nat → List Int32} {post : AHeap} : (put b pre s A post)[b + 4]? = some (.array .int, (A 3).map Value.int) := pad_get _ _ _ 4
theorem put_w3 {b : Nat} {pre : AHeap} {s : Nat → Int32} {A : Nat → List Int32} {post : AHeap} {l : List Int32} : (put b pre s A post).set (b + 4) (.array .int, l.map Value.int) = put b pre s (ou A 3 l) post := pad_set _ _ _ 4 _
theorem put_a4 {b : Nat} {pre : AHeap} {s : Nat → Int32} {A : Nat → List Int32} {post : AHeap} : (put b pre s A post)[b + 5]? = some (.array .int, (A 4).map Value.int) := pad_get _ _ _ 5
theorem put_w4 {b : Nat} {pre : AHeap} {s : Nat → Int32} {A : Nat → List Int32} {post : AHeap} {l : List Int32} : (put b pre s A post).set (b + 5) (.array .int, l.map Value.int) = put b pre s (ou A 4 l) post := pad_set _ _ _ 5 _
theorem put_a5 {b : Nat} {pre : AHeap} {s : Nat → Int32} {A : Nat → List Int32} {post : AHeap} : (put b pre s A post)[b + 6]? = some (.array .int, (A 5).map Value.int) := pad_get _ _ _ 6
theorem put_w5 {b : Nat} {pre : AHeap} {s : Nat → Int32} {A : Nat → List Int32} {post : AHeap} {l : List Int32} : (put b pre s A post).set (b + 6) (.array .int, l.map Value.int) = put b pre s (ou A 5 l) post := pad_set _ _ _ 6 _
theorem put_a6 {b : Nat} {pre : AHeap} {s : Nat → Int32} {A : Nat → List Int32} {post : AHeap} : (put b pre s A post)[b + 7]? = some (.array .int, (A 6).map Value.int) := pad_get _ _ _ 7
theorem put_w6 {b : Nat} {pre : AHeap} {s : Nat → Int32} {A : Nat → List Int32} {post : AHeap} {l : List Int32} : (put b pre s A post).set (b + 7) (.array .int, l.map Value.int) = put b pre s (ou A 6 l) post := pad_set _ _ _ 7 _
theorem put_a7 {b : Nat} {pre : AHeap} {s : Nat → Int32} {A : Nat → List Int32} {post : AHeap} : (put b pre s A post)[b + 8]? = some (.array .boolean, (A 7).map Value.int) := pad_get _ _ _ 8
theorem put_w7 {b : Nat} {pre : AHeap} {s : Nat → Int32} {A : Nat → List Int32} {post : AHeap} {l : List Int32} : (put b pre s A post).set (b + 8) (.array .boolean, l.map Value.int) = put b pre s (ou A 7 l) post := pad_set _ _ _ 8 _
theorem put_a8 {b : Nat} {pre : AHeap} {s : Nat → Int32} {A : Nat → List Int32} {post : AHeap} : (put b pre s A post)[b + 9]? = some (.array .int, (A 8).map Value.int) := pad_get _ _ _ 9
theorem put_w8 {b : Nat} {pre : AHeap} {s : Nat → Int32} {A : Nat → List Int32} {post : AHeap} {l : List Int32} : (put b pre s A post).set (b + 9) (.array .int, l.map Value.int) = put b pre s (ou A 8 l) post := pad_set _ _ _ 9 _
theorem put_a9 {b : Nat} {pre : AHeap} {s : Nat → Int32} {A : Nat → List Int32} {post : AHeap} : (put b pre s A post)[b + 10]? = some (.array .int, (A 9).map Value.int) := pad_get _ _ _ 10
theorem put_w9 {b : Nat} {pre : AHeap} {s : Nat → Int32} {A : Nat → List Int32} {post : AHeap} {l : List Int32} : (put b pre s A post).set (b + 10) (.array .int, l.map Value.int) = put b pre s (ou A 9 l) post := pad_set _ _ _ 10 _
theorem put_a10 {b : Nat} {pre : AHeap} {s : Nat → Int32} {A : Nat → List Int32} {post : AHeap} : (put b pre s A post)[b + 11]? = some (.array .int, (A 10).map Value.int) := pad_get _ _ _ 11
theorem put_w10 {b : Nat} {pre : AHeap} {s : Nat → Int32} {A : Nat → List Int32} {post : AHeap} {l : List Int32} : (put b pre s A post).set (b + 11) (.array .int, l.map Value.int) = put b pre s (ou A 10 l) post := pad_set _ _ _ 11 _
theorem put_s0 {b : Nat} {pre : AHeap} {s : Nat → Int32} {A : Nat → List Int32} {post : AHeap} {v : Int32} : (put b pre s A post).set b (.object "SuffixAutomat", (objv b s).set 11 (.int v)) = put b pre (ou s 0 v) A post := pad_set0 _ _ _ _
theorem put_s1 {b : Nat} {pre : AHeap} {s : Nat → Int32} {A : Nat → List Int32} {post : AHeap} {v : Int32} : (put b pre s A post).set b (.object "SuffixAutomat", (objv b s).set 12 (.int v)) = put b pre (ou s 1 v) A post := pad_set0 _ _ _ _
theorem put_s2 {b : Nat} {pre : AHeap} {s : Nat → Int32} {A : Nat → List Int32} {post : AHeap} {v : Int32} : (put b pre s A post).set b (.object "SuffixAutomat", (objv b s).set 13 (.int v)) = put b pre (ou s 2 v) A post := pad_set0 _ _ _ _
theorem put_s3 {b : Nat} {pre : AHeap} {s : Nat → Int32} {A : Nat → List Int32} {post : AHeap} {v : Int32} : (put b pre s A post).set b (.object "SuffixAutomat", (objv b s).set 14 (.int v)) = put b pre (ou s 3 v) A post := pad_set0 _ _ _ _
theorem put_s4 {b : Nat} {pre : AHeap} {s : Nat → Int32} {A : Nat → List Int32} {post : AHeap} {v : Int32} : (put b pre s A post).set b (.object "SuffixAutomat", (objv b s).set 15 (.int v)) = put b pre (ou s 4 v) A post := pad_set0 _ _ _ _
theorem put_s5 {b : Nat} {pre : AHeap} {s : Nat → Int32} {A : Nat → List Int32} {post : AHeap} {v : Int32} : (put b pre s A post).set b (.object "SuffixAutomat", (objv b s).set 16 (.int v)) = put b pre (ou s 5 v) A post := pad_set0 _ _ _ _
theorem put_s6 {b : Nat} {pre : AHeap} {s : Nat → Int32} {A : Nat → List Int32} {post : AHeap} {v : Int32} : (put b pre s A post).set b (.object "SuffixAutomat", (objv b s).set 17 (.int v)) = put b pre (ou s 6 v) A post := pad_set0 _ _ _ _
theorem put_s7 {b : Nat} {pre : AHeap} {s : Nat → Int32} {A : Nat → List Int32} {post : AHeap} {v : Int32} : (put b pre s A post).set b (.object "SuffixAutomat", (objv b s).set 18 (.int v)) = put b pre (ou s 7 v) A post := pad_set0 _ _ _ _
theorem put_s8 {b : Nat} {pre : AHeap} {s : Nat → Int32} {A : Nat → List Int32} {post : AHeap} {v : Int32} : (put b pre s A post).set b (.object "SuffixAutomat", (objv b s).set 19 (.int v)) = put b pre (ou s 8 v) A post := pad_set0 _ _ _ _
theorem put_len {b : Nat} {pre : AHeap} {s : Nat → Int32} {A : Nat → List Int32} {post : AHeap} : (put b pre s A post).length = b + 12 + post.length := by rw [put, List.length_append, pad_len]; simp only [List.length_cons]; omega
theorem inst0 : rInst tables_1 "SuffixAutomat" = some 22 := by decide +kernel
theorem put_tot {b : Nat} {pre : AHeap} {s : Nat → Int32} {A : Nat → List Int32} {post : AHeap} : tot tables_1 (put b pre s A post) = tot tables_1 (pad b pre) + (22 + ((A 0).length + ((A 1).length + ((A 2).length + ((A 3).length + ((A 4).length + ((A 5).length + ((A 6).length + ((A 7).length + ((A 8).length + ((A 9).length + ((A 10).length + tot tables_1 post)))))))))))) := by rw [put, tot_append]; simp only [tot_cons, cost, List.length_map, inst0, Option.getD_some]
def D0 : List Value := [.null, .null, .null, .null, .null, .null, .null, .null, .null, .null, .null, .int 0, .int 0, .int 0, .int 0, .int 0, .int 0, .int 0, .int 0, .int 0]
theorem lay0 : (olay tables_1 "SuffixAutomat").map dflt = D0 := by decide +kernel
abbrev y0 : MethodName := ⟨"SuffixAutomat", "<init>", "(II)V"⟩
abbrev kb0 : ByteArray := prog_1_method_1_code
def M0 (pc : Nat) (ls : List Slot) (st : List Value) (H : AHeap) (Q : Option Value → AHeap → Prop) : Prop := W tables_1 dn 1 y0 prog_1_method_1_code none pc ls st H Q
abbrev y1 : MethodName := ⟨"SuffixAutomat", "resetAutomaton", "()V"⟩
abbrev kb1 : ByteArray := prog_1_method_18_code
def M1 (pc : Nat) (ls : List Slot) (st : List Value) (H : AHeap) (Q : Option Value → AHeap → Prop) : Prop := W tables_1 dn 1 y1 prog_1_method_18_code none pc ls st H Q
abbrev y2 : MethodName := ⟨"SuffixAutomat", "clearState", "(I)V"⟩
abbrev kb2 : ByteArray := prog_1_method_19_code
def M2 (pc : Nat) (ls : List Slot) (st : List Value) (H : AHeap) (Q : Option Value → AHeap → Prop) : Prop := W tables_1 dn 1 y2 prog_1_method_19_code none pc ls st H Q
abbrev y3 : MethodName := ⟨"SuffixAutomat", "length", "()I"⟩
abbrev kb3 : ByteArray := prog_1_method_3_code
def M3 (pc : Nat) (ls : List Slot) (st : List Value) (H : AHeap) (Q : Option Value → AHeap → Prop) : Prop := W tables_1 dn 1 y3 prog_1_method_3_code (some .int) pc ls st H Q
abbrev y4 : MethodName := ⟨"SuffixAutomat", "patternLength", "()I"⟩
abbrev kb4 : ByteArray := prog_1_method_7_code
def M4 (pc : Nat) (ls : List Slot) (st : List Value) (H : AHeap) (Q : Option Value → AHeap → Prop) : Prop := W tables_1 dn 1 y4 prog_1_method_7_code (some .int) pc ls st H Q
abbrev y5 : MethodName := ⟨"SuffixAutomat", "occurrences", "()I"⟩
abbrev kb5 : ByteArray := prog_1_method_9_code
def M5 (pc : Nat) (ls : List Slot) (st : List Value) (H : AHeap) (Q : Option Value → AHeap → Prop) : Prop := W tables_1 dn 1 y5 prog_1_method_9_code (some .int) pc ls st H Q
abbrev y6 : MethodName := ⟨"SuffixAutomat", "contains", "()Z"⟩
abbrev kb6 : ByteArray := prog_1_method_8_code
def M6 (pc : Nat) (ls : List Slot) (st : List Value) (H : AHeap) (Q : Option Value → AHeap → Prop) : Prop := W tables_1 dn 1 y6 prog_1_method_8_code (some .boolean) pc ls st H Q
abbrev y7 : MethodName := ⟨"SuffixAutomat", "firstOccurrence", "()I"⟩
abbrev kb7 : ByteArray := prog_1_method_10_code
def M7 (pc : Nat) (ls : List Slot) (st : List Value) (H : AHeap) (Q : Option Value → AHeap → Prop) : Prop := W tables_1 dn 1 y7 prog_1_method_10_code (some .int) pc ls st H Q
abbrev y8 : MethodName := ⟨"SuffixAutomat", "append", "(I)Z"⟩
abbrev kb8 : ByteArray := prog_1_method_2_code
def M8 (pc : Nat) (ls : List Slot) (st : List Value) (H : AHeap) (Q : Option Value → AHeap → Prop) : Prop := W tables_1 dn 1 y8 prog_1_method_2_code (some .boolean) pc ls st H Q
abbrev y9 : MethodName := ⟨"SuffixAutomat", "extend", "(I)V"⟩
abbrev kb9 : ByteArray := prog_1_method_20_code
def M9 (pc : Nat) (ls : List Slot) (st : List Value) (H : AHeap) (Q : Option Value → AHeap → Prop) : Prop := W tables_1 dn 1 y9 prog_1_method_20_code none pc ls st H Q
abbrev y10 : MethodName := ⟨"SuffixAutomat", "addEdges", "(III)I"⟩
abbrev kb10 : ByteArray := prog_1_method_21_code
def M10 (pc : Nat) (ls : List Slot) (st : List Value) (H : AHeap) (Q : Option Value → AHeap → Prop) : Prop := W tables_1 dn 1 y10 prog_1_method_21_code (some .int) pc ls st H Q
abbrev y11 : MethodName := ⟨"SuffixAutomat", "pushPattern", "(I)Z"⟩
abbrev kb11 : ByteArray := prog_1_method_6_code
def M11 (pc : Nat) (ls : List Slot) (st : List Value) (H : AHeap) (Q : Option Value → AHeap → Prop) : Prop := W tables_1 dn 1 y11 prog_1_method_6_code (some .boolean) pc ls st H Q
abbrev y12 : MethodName := ⟨"SuffixAutomat", "symbolAt", "(I)I"⟩
abbrev kb12 : ByteArray := prog_1_method_4_code
def M12 (pc : Nat) (ls : List Slot) (st : List Value) (H : AHeap) (Q : Option Value → AHeap → Prop) : Prop := W tables_1 dn 1 y12 prog_1_method_4_code (some .int) pc ls st H Q
abbrev y13 : MethodName := ⟨"SuffixAutomat", "walkPattern", "()I"⟩
abbrev kb13 : ByteArray := prog_1_method_23_code
def M13 (pc : Nat) (ls : List Slot) (st : List Value) (H : AHeap) (Q : Option Value → AHeap → Prop) : Prop := W tables_1 dn 1 y13 prog_1_method_23_code (some .int) pc ls st H Q
abbrev y14 : MethodName := ⟨"SuffixAutomat", "ensureCounts", "()V"⟩
abbrev kb14 : ByteArray := prog_1_method_24_code
def M14 (pc : Nat) (ls : List Slot) (st : List Value) (H : AHeap) (Q : Option Value → AHeap → Prop) : Prop := W tables_1 dn 1 y14 prog_1_method_24_code none pc ls st H Q
abbrev y15 : MethodName := ⟨"SuffixAutomat", "sortByLength", "()V"⟩
abbrev kb15 : ByteArray := prog_1_method_25_code
def M15 (pc : Nat) (ls : List Slot) (st : List Value) (H : AHeap) (Q : Option Value → AHeap → Prop) : Prop := W tables_1 dn 1 y15 prog_1_method_25_code none pc ls st H Q
abbrev y16 : MethodName := ⟨"SuffixAutomat", "clearOther", "()V"⟩
abbrev kb16 : ByteArray := prog_1_method_13_code
def M16 (pc : Nat) (ls : List Slot) (st : List Value) (H : AHeap) (Q : Option Value → AHeap → Prop) : Prop := W tables_1 dn 1 y16 prog_1_method_13_code none pc ls st H Q
abbrev y17 : MethodName := ⟨"SuffixAutomat", "pushOther", "(I)Z"⟩
abbrev kb17 : ByteArray := prog_1_method_14_code
def M17 (pc : Nat) (ls : List Slot) (st : List Value) (H : AHeap) (Q : Option Value → AHeap → Prop) : Prop := W tables_1 dn 1 y17 prog_1_method_14_code (some .boolean) pc ls st H Q
abbrev y18 : MethodName := ⟨"SuffixAutomat", "clearPattern", "()V"⟩
abbrev kb18 : ByteArray := prog_1_method_5_code
def M18 (pc : Nat) (ls : List Slot) (st : List Value) (H : AHeap) (Q : Option Value → AHeap → Prop) : Prop := W tables_1 dn 1 y18 prog_1_method_5_code none pc ls st H Q
abbrev y19 : MethodName := ⟨"SuffixAutomat", "splitState", "(IIII)V"⟩
abbrev kb19 : ByteArray := prog_1_method_22_code
def M19 (pc : Nat) (ls : List Slot) (st : List Value) (H : AHeap) (Q : Option Value → AHeap → Prop) : Prop := W tables_1 dn 1 y19 prog_1_method_22_code none pc ls st H Q
abbrev y20 : MethodName := ⟨"SuffixAutomat", "reset", "()V"⟩
abbrev kb20 : ByteArray := prog_1_method_17_code
def M20 (pc : Nat) (ls : List Slot) (st : List Value) (H : AHeap) (Q : Option Value → AHeap → Prop) : Prop := W tables_1 dn 1 y20 prog_1_method_17_code none pc ls st H Q
abbrev y21 : MethodName := ⟨"SuffixAutomatOwnLaw", "cell", "([II)I"⟩
abbrev kb21 : ByteArray := method_2_code
def M21 (pc : Nat) (ls : List Slot) (st : List Value) (H : AHeap) (Q : Option Value → AHeap → Prop) : Prop := W tables_1 dn 1 y21 method_2_code (some .int) pc ls st H Q
abbrev y22 : MethodName := ⟨"SuffixAutomatOwnLaw", "mod", "(II)I"⟩
abbrev kb22 : ByteArray := method_3_code
def M22 (pc : Nat) (ls : List Slot) (st : List Value) (H : AHeap) (Q : Option Value → AHeap → Prop) : Prop := W tables_1 dn 1 y22 method_3_code (some .int) pc ls st H Q
abbrev y23 : MethodName := ⟨"SuffixAutomatOwnLaw", "clampAlpha", "(I)I"⟩
abbrev kb23 : ByteArray := method_4_code
def M23 (pc : Nat) (ls : List Slot) (st : List Value) (H : AHeap) (Q : Option Value → AHeap → Prop) : Prop := W tables_1 dn 1 y23 method_4_code (some .int) pc ls st H Q
abbrev y24 : MethodName := ⟨"SuffixAutomatOwnLaw", "get", "(JJJJI)I"⟩
abbrev kb24 : ByteArray := method_5_code
def M24 (pc : Nat) (ls : List Slot) (st : List Value) (H : AHeap) (Q : Option Value → AHeap → Prop) : Prop := W tables_1 dn 1 y24 method_5_code (some .int) pc ls st H Q
abbrev y25 : MethodName := ⟨"SuffixAutomatOwnLaw", "law", "([I)Z"⟩
abbrev kb25 : ByteArray := code
def M25 (pc : Nat) (ls : List Slot) (st : List Value) (H : AHeap) (Q : Option Value → AHeap → Prop) : Prop := W tables_1 dn 1 y25 code (some .boolean) pc ls st H Q
theorem dn_0 : dnOf dn y0 = some (2, 27) := by decide +kernel
theorem rc_0 : rCode tables_1 y0 = some (prog_1_method_1_code, 5, none) := rCode_of (i := 15) rfl (by decide +kernel)
theorem dn_1 : dnOf dn y1 = some (1, 15) := by decide +kernel
theorem rc_1 : rCode tables_1 y1 = some (prog_1_method_18_code, 1, none) := rCode_of (i := 56) rfl (by decide +kernel)
theorem dn_2 : dnOf dn y2 = some (0, 0) := by decide +kernel
theorem rc_2 : rCode tables_1 y2 = some (prog_1_method_19_code, 4, none) := rCode_of (i := 68) rfl (by decide +kernel)
theorem dn_3 : dnOf dn y3 = some (0, 0) := by decide +kernel
theorem rc_3 : rCode tables_1 y3 = some (prog_1_method_3_code, 1, some .int) := rCode_of (i := 73) rfl (by decide +kernel)
theorem dn_4 : dnOf dn y4 = some (0, 0) := by decide +kernel
theorem rc_4 : rCode tables_1 y4 = some (prog_1_method_7_code, 1, some .int) := rCode_of (i := 78) rfl (by decide +kernel)
theorem dn_5 : dnOf dn y5 = some (2, 30) := by decide +kernel
theorem rc_5 : rCode tables_1 y5 = some (prog_1_method_9_code, 2, some .int) := rCode_of (i := 83) rfl (by decide +kernel)
theorem dn_6 : dnOf dn y6 = some (1, 16) := by decide +kernel
theorem rc_6 : rCode tables_1 y6 = some (prog_1_method_8_code, 1, some .boolean) := rCode_of (i := 88) rfl (by decide +kernel)
theorem dn_7 : dnOf dn y7 = some (1, 16) := by decide +kernel
theorem rc_7 : rCode tables_1 y7 = some (prog_1_method_10_code, 2, some .int) := rCode_of (i := 93) rfl (by decide +kernel)
theorem dn_8 : dnOf dn y8 = some (3, 52) := by decide +kernel
theorem rc_8 : rCode tables_1 y8 = some (prog_1_method_2_code, 2, some .boolean) := rCode_of (i := 98) rfl (by decide +kernel)
theorem dn_9 : dnOf dn y9 = some (2, 36) := by decide +kernel
theorem rc_9 : rCode tables_1 y9 = some (prog_1_method_20_code, 5, none) := rCode_of (i := 102) rfl (by decide +kernel)
theorem dn_10 : dnOf dn y10 = some (0, 0) := by decide +kernel
theorem rc_10 : rCode tables_1 y10 = some (prog_1_method_21_code, 6, some .int) := rCode_of (i := 106) rfl (by decide +kernel)
theorem dn_11 : dnOf dn y11 = some (0, 0) := by decide +kernel
theorem rc_11 : rCode tables_1 y11 = some (prog_1_method_6_code, 2, some .boolean) := rCode_of (i := 111) rfl (by decide +kernel)
theorem dn_12 : dnOf dn y12 = some (0, 0) := by decide +kernel
theorem rc_12 : rCode tables_1 y12 = some (prog_1_method_4_code, 2, some .int) := rCode_of (i := 116) rfl (by decide +kernel)
theorem dn_13 : dnOf dn y13 = some (0, 0) := by decide +kernel
theorem rc_13 : rCode tables_1 y13 = some (prog_1_method_23_code, 5, some .int) := rCode_of (i := 124) rfl (by decide +kernel)
theorem dn_14 : dnOf dn y14 = some (1, 15) := by decide +kernel
theorem rc_14 : rCode tables_1 y14 = some (prog_1_method_24_code, 4, none) := rCode_of (i := 128) rfl (by decide +kernel)
theorem dn_15 : dnOf dn y15 = some (0, 0) := by decide +kernel
theorem rc_15 : rCode tables_1 y15 = some (prog_1_method_25_code, 4, none) := rCode_of (i := 132) rfl (by decide +kernel)
theorem dn_16 : dnOf dn y16 = some (0, 0) := by decide +kernel
theorem rc_16 : rCode tables_1 y16 = some (prog_1_method_13_code, 1, none) := rCode_of (i := 137) rfl (by decide +kernel)
theorem dn_17 : dnOf dn y17 = some (0, 0) := by decide +kernel
theorem rc_17 : rCode tables_1 y17 = some (prog_1_method_14_code, 2, some .boolean) := rCode_of (i := 142) rfl (by decide +kernel)
theorem dn_18 : dnOf dn y18 = some (0, 0) := by decide +kernel
theorem rc_18 : rCode tables_1 y18 = some (prog_1_method_5_code, 1, none) := rCode_of (i := 147) rfl (by decide +kernel)
theorem dn_19 : dnOf dn y19 = some (1, 15) := by decide +kernel
theorem rc_19 : rCode tables_1 y19 = some (prog_1_method_22_code, 10, none) := rCode_of (i := 151) rfl (by decide +kernel)
theorem dn_20 : dnOf dn y20 = some (2, 27) := by decide +kernel
theorem rc_20 : rCode tables_1 y20 = some (prog_1_method_17_code, 1, none) := rCode_of (i := 156) rfl (by decide +kernel)
theorem dn_21 : dnOf dn y21 = some (0, 0) := by decide +kernel
theorem rc_21 : rCode tables_1 y21 = some (method_2_code, 2, some .int) := rCode_of (i := 3) rfl (by decide +kernel)
theorem dn_22 : dnOf dn y22 = some (0, 0) := by decide +kernel
theorem rc_22 : rCode tables_1 y22 = some (method_3_code, 3, some .int) := rCode_of (i := 6) rfl (by decide +kernel)
theorem dn_23 : dnOf dn y23 = some (0, 0) := by decide +kernel
theorem rc_23 : rCode tables_1 y23 = some (method_4_code, 1, some .int) := rCode_of (i := 9) rfl (by decide +kernel)
theorem dn_24 : dnOf dn y24 = some (0, 0) := by decide +kernel
theorem rc_24 : rCode tables_1 y24 = some (method_5_code, 11, some .int) := rCode_of (i := 119) rfl (by decide +kernel)
theorem dn_25 : dnOf dn y25 = some (4, 65) := by decide +kernel
theorem gf_7 : gfR tables_1 "SuffixAutomat" 7 = some ("SuffixAutomat", 0) := by decide +kernel
theorem gf_13 : gfR tables_1 "SuffixAutomat" 13 = some ("SuffixAutomat", 1) := by decide +kernel
theorem gf_16 : gfR tables_1 "SuffixAutomat" 16 = some ("SuffixAutomat", 2) := by decide +kernel
theorem gf_19 : gfR tables_1 "SuffixAutomat" 19 = some ("SuffixAutomat", 3) := by decide +kernel
theorem gf_22 : gfR tables_1 "SuffixAutomat" 22 = some ("SuffixAutomat", 4) := by decide +kernel
theorem gf_25 : gfR tables_1 "SuffixAutomat" 25 = some ("SuffixAutomat", 5) := by decide +kernel
theorem gf_28 : gfR tables_1 "SuffixAutomat" 28 = some ("SuffixAutomat", 6) := by decide +kernel
theorem gf_31 : gfR tables_1 "SuffixAutomat" 31 = some ("SuffixAutomat", 7) := by decide +kernel
theorem gf_35 : gfR tables_1 "SuffixAutomat" 35 = some ("SuffixAutomat", 8) := by decide +kernel
theorem gf_38 : gfR tables_1 "SuffixAutomat" 38 = some ("SuffixAutomat", 9) := by decide +kernel
theorem gf_41 : gfR tables_1 "SuffixAutomat" 41 = some ("SuffixAutomat", 10) := by decide +kernel
theorem gf_44 : gfR tables_1 "SuffixAutomat" 44 = some ("SuffixAutomat", 11) := by decide +kernel
theorem gf_48 : gfR tables_1 "SuffixAutomat" 48 = some ("SuffixAutomat", 12) := by decide +kernel
theorem gf_51 : gfR tables_1 "SuffixAutomat" 51 = some ("SuffixAutomat", 13) := by decide +kernel
theorem gf_54 : gfR tables_1 "SuffixAutomat" 54 = some ("SuffixAutomat", 14) := by decide +kernel
theorem gf_57 : gfR tables_1 "SuffixAutomat" 57 = some ("SuffixAutomat", 15) := by decide +kernel
theorem gf_74 : gfR tables_1 "SuffixAutomat" 74 = some ("SuffixAutomat", 18) := by decide +kernel
theorem gf_77 : gfR tables_1 "SuffixAutomat" 77 = some ("SuffixAutomat", 16) := by decide +kernel
theorem gf_89 : gfR tables_1 "SuffixAutomat" 89 = some ("SuffixAutomat", 17) := by decide +kernel
theorem gf_92 : gfR tables_1 "SuffixAutomat" 92 = some ("SuffixAutomat", 19) := by decide +kernel
section Rules
variable {b r q : Nat} {pre : AHeap} {s : Nat → Int32} {A : Nat → List Int32} {post : AHeap} {ls : List Slot} {st : List Value} {H R : AHeap} {Q : Option Value → AHeap → Prop} {x y v z j : Int32} {J1 J2 : Int64} {sc : List Int32} {l0 l1 l2 l3 l4 l5 l6 l7 l8 l9 l10 l11 l12 l13 l14 l15 l16 l17 l18 l19 l20 l21 l22 l23 : Slot}
theorem m0_0 : M0 0 [.val (.ref r), l1, l2, l3, l4] st H Q = M0 1 [.val (.ref r), l1, l2, l3, l4] (.ref r :: st) H Q := w_x (show decode kb0 0 = .ok (.aload_n 0, 1) from by decide +kernel) rfl
theorem m0_1 : M0 1 ls [.ref r] H Q = M0 4 ls [] H Q := w_obj (show decode kb0 1 = .ok (.invokespecial 1, 3) from by decide +kernel) (sl := 15) (by decide +kernel) (by decide)
theorem m0_4 : M0 4 [.val (.ref r), l1, l2, l3, l4] st H Q = M0 5 [.val (.ref r), l1, l2, l3, l4] (.ref r :: st) H Q := w_x (show decode kb0 4 = .ok (.aload_n 0, 1) from by decide +kernel) rfl
theorem m0_5 : M0 5 ls st H Q = M0 7 ls (.int 64 :: st) H Q := w_con (show decode kb0 5 = .ok (.bipush 64, 2) from by decide +kernel) rfl (by decide)
theorem m0_12 : M0 12 [.val (.ref r), l1, l2, l3, l4] st H Q = M0 13 [.val (.ref r), l1, l2, l3, l4] (.ref r :: st) H Q := w_x (show decode kb0 12 = .ok (.aload_n 0, 1) from by decide +kernel) rfl
theorem m0_13 : M0 13 ls st H Q = M0 15 ls (.int 64 :: st) H Q := w_con (show decode kb0 13 = .ok (.bipush 64, 2) from by decide +kernel) rfl (by decide)
theorem m0_20 : M0 20 [.val (.ref r), l1, l2, l3, l4] st H Q = M0 21 [.val (.ref r), l1, l2, l3, l4] (.ref r :: st) H Q := w_x (show decode kb0 20 = .ok (.aload_n 0, 1) from by decide +kernel) rfl
theorem m0_21 : M0 21 ls st H Q = M0 23 ls (.int 64 :: st) H Q := w_con (show decode kb0 21 = .ok (.bipush 64, 2) from by decide +kernel) rfl (by decide)
theorem m0_28 : M0 28 [.val (.ref r), l1, l2, l3, l4] st H Q = M0 29 [.val (.ref r), l1, l2, l3, l4] (.ref r :: st) H Q := w_x (show decode kb0 28 = .ok (.aload_n 0, 1) from by decide +kernel) rfl
theorem m0_29 : M0 29 ls st H Q = M0 32 ls (.int 1024 :: st) H Q := w_con (show decode kb0 29 = .ok (.sipush 1024, 3) from by decide +kernel) rfl (by decide)
theorem m0_37 : M0 37 [.val (.ref r), l1, l2, l3, l4] st H Q = M0 38 [.val (.ref r), l1, l2, l3, l4] (.ref r :: st) H Q := w_x (show decode kb0 37 = .ok (.aload_n 0, 1) from by decide +kernel) rfl
theorem m0_38 : M0 38 ls st H Q = M0 41 ls (.int 128 :: st) H Q := w_con (show decode kb0 38 = .ok (.sipush 128, 3) from by decide +kernel) rfl (by decide)
theorem m0_46 : M0 46 [.val (.ref r), l1, l2, l3, l4] st H Q = M0 47 [.val (.ref r), l1, l2, l3, l4] (.ref r :: st) H Q := w_x (show decode kb0 46 = .ok (.aload_n 0, 1) from by decide +kernel) rfl
theorem m0_47 : M0 47 ls st H Q = M0 50 ls (.int 128 :: st) H Q := w_con (show decode kb0 47 = .ok (.sipush 128, 3) from by decide +kernel) rfl (by decide)
theorem m0_55 : M0 55 [.val (.ref r), l1, l2, l3, l4] st H Q = M0 56 [.val (.ref r), l1, l2, l3, l4] (.ref r :: st) H Q := w_x (show decode kb0 55 = .ok (.aload_n 0, 1) from by decide +kernel) rfl
theorem m0_56 : M0 56 ls st H Q = M0 59 ls (.int 128 :: st) H Q := w_con (show decode kb0 56 = .ok (.sipush 128, 3) from by decide +kernel) rfl (by decide)
theorem m0_64 : M0 64 [.val (.ref r), l1, l2, l3, l4] st H Q = M0 65 [.val (.ref r), l1, l2, l3, l4] (.ref r :: st) H Q := w_x (show decode kb0 64 = .ok (.aload_n 0, 1) from by decide +kernel) rfl
theorem m0_65 : M0 65 ls st H Q = M0 68 ls (.int 128 :: st) H Q := w_con (show decode kb0 65 = .ok (.sipush 128, 3) from by decide +kernel) rfl (by decide)
theorem m0_73 : M0 73 [.val (.ref r), l1, l2, l3, l4] st H Q = M0 74 [.val (.ref r), l1, l2, l3, l4] (.ref r :: st) H Q := w_x (show decode kb0 73 = .ok (.aload_n 0, 1) from by decide +kernel) rfl
theorem m0_74 : M0 74 ls st H Q = M0 77 ls (.int 128 :: st) H Q := w_con (show decode kb0 74 = .ok (.sipush 128, 3) from by decide +kernel) rfl (by decide)
theorem m0_82 : M0 82 [.val (.ref r), l1, l2, l3, l4] st H Q = M0 83 [.val (.ref r), l1, l2, l3, l4] (.ref r :: st) H Q := w_x (show decode kb0 82 = .ok (.aload_n 0, 1) from by decide +kernel) rfl
theorem m0_83 : M0 83 ls st H Q = M0 86 ls (.int 128 :: st) H Q := w_con (show decode kb0 83 = .ok (.sipush 128, 3) from by decide +kernel) rfl (by decide)
theorem m0_91 : M0 91 [.val (.ref r), l1, l2, l3, l4] st H Q = M0 92 [.val (.ref r), l1, l2, l3, l4] (.ref r :: st) H Q := w_x (show decode kb0 91 = .ok (.aload_n 0, 1) from by decide +kernel) rfl
theorem m0_92 : M0 92 ls st H Q = M0 94 ls (.int 65 :: st) H Q := w_con (show decode kb0 92 = .ok (.bipush 65, 2) from by decide +kernel) rfl (by decide)
theorem m0_99 : M0 99 [l0, .val (.int v), l2, l3, l4] st H Q = M0 100 [l0, .val (.int v), l2, l3, l4] (.int v :: st) H Q := w_x (show decode kb0 99 = .ok (.iload_n 1, 1) from by decide +kernel) rfl
theorem m0_100u : M0 100 [l0, l1, l2, .unset, l4] ((.int v) :: st) H Q = M0 101 [l0, l1, l2, .val (.int v), l4] st H Q := w_st (i := 3) (p := isI) (show decode kb0 100 = .ok (.istore_n 3, 1) from by decide +kernel) rfl rfl rfl rfl rfl rfl
theorem m0_101 : M0 101 [l0, l1, l2, .val (.int v), l4] st H Q = M0 102 [l0, l1, l2, .val (.int v), l4] (.int v :: st) H Q := w_x (show decode kb0 101 = .ok (.iload_n 3, 1) from by decide +kernel) rfl
theorem m0_102 : M0 102 ls st H Q = M0 103 ls (.int 2 :: st) H Q := w_con (show decode kb0 102 = .ok (.iconst 2, 1) from by decide +kernel) rfl (by decide)
theorem m0_103 : M0 103 ls (.int y :: .int x :: st) H Q = if x < y then M0 106 ls st H Q else M0 108 ls st H Q := w_icmpN (show decode kb0 103 = .ok (.if_icmp .ge 5, 3) from by decide +kernel) (i_ge x y) rfl
theorem m0_106 : M0 106 ls st H Q = M0 107 ls (.int 2 :: st) H Q := w_con (show decode kb0 106 = .ok (.iconst 2, 1) from by decide +kernel) rfl (by decide)
theorem m0_107i : M0 107 [l0, l1, l2, .val (.int z), l4] ((.int v) :: st) H Q = M0 108 [l0, l1, l2, .val (.int v), l4] st H Q := w_st (i := 3) (p := isI) (show decode kb0 107 = .ok (.istore_n 3, 1) from by decide +kernel) rfl rfl rfl rfl rfl rfl
theorem m0_108 : M0 108 [l0, l1, l2, .val (.int v), l4] st H Q = M0 109 [l0, l1, l2, .val (.int v), l4] (.int v :: st) H Q := w_x (show decode kb0 108 = .ok (.iload_n 3, 1) from by decide +kernel) rfl
theorem m0_109 : M0 109 ls st H Q = M0 111 ls (.int 8 :: st) H Q := w_con (show decode kb0 109 = .ok (.bipush 8, 2) from by decide +kernel) rfl (by decide)
theorem m0_111 : M0 111 ls (.int y :: .int x :: st) H Q = if y < x then M0 114 ls st H Q else M0 117 ls st H Q := w_icmpN (show decode kb0 111 = .ok (.if_icmp .le 6, 3) from by decide +kernel) (i_le x y) rfl
theorem m0_114 : M0 114 ls st H Q = M0 116 ls (.int 8 :: st) H Q := w_con (show decode kb0 114 = .ok (.bipush 8, 2) from by decide +kernel) rfl (by decide)
theorem m0_116i : M0 116 [l0, l1, l2, .val (.int z), l4] ((.int v) :: st) H Q = M0 117 [l0, l1, l2, .val (.int v), l4] st H Q := w_st (i := 3) (p := isI) (show decode kb0 116 = .ok (.istore_n 3, 1) from by decide +kernel) rfl rfl rfl rfl rfl rfl
theorem m0_117 : M0 117 [l0, l1, .val (.int v), l3, l4] st H Q = M0 118 [l0, l1, .val (.int v), l3, l4] (.int v :: st) H Q := w_x (show decode kb0 117 = .ok (.iload_n 2, 1) from by decide +kernel) rfl
theorem m0_118u : M0 118 [l0, l1, l2, l3, .unset] ((.int v) :: st) H Q = M0 120 [l0, l1, l2, l3, .val (.int v)] st H Q := w_st (i := 4) (p := isI) (show decode kb0 118 = .ok (.istore 4, 2) from by decide +kernel) rfl rfl rfl rfl rfl rfl
theorem m0_120 : M0 120 [l0, l1, l2, l3, .val (.int v)] st H Q = M0 122 [l0, l1, l2, l3, .val (.int v)] (.int v :: st) H Q := w_x (show decode kb0 120 = .ok (.iload 4, 2) from by decide +kernel) rfl
theorem m0_122 : M0 122 ls st H Q = M0 124 ls (.int 8 :: st) H Q := w_con (show decode kb0 122 = .ok (.bipush 8, 2) from by decide +kernel) rfl (by decide)
theorem m0_124 : M0 124 ls (.int y :: .int x :: st) H Q = if x < y then M0 127 ls st H Q else M0 131 ls st H Q := w_icmpN (show decode kb0 124 = .ok (.if_icmp .ge 7, 3) from by decide +kernel) (i_ge x y) rfl
theorem m0_127 : M0 127 ls st H Q = M0 129 ls (.int 8 :: st) H Q := w_con (show decode kb0 127 = .ok (.bipush 8, 2) from by decide +kernel) rfl (by decide)
theorem m0_129i : M0 129 [l0, l1, l2, l3, .val (.int z)] ((.int v) :: st) H Q = M0 131 [l0, l1, l2, l3, .val (.int v)] st H Q := w_st (i := 4) (p := isI) (show decode kb0 129 = .ok (.istore 4, 2) from by decide +kernel) rfl rfl rfl rfl rfl rfl
theorem m0_131 : M0 131 [l0, l1, l2, l3, .val (.int v)] st H Q = M0 133 [l0, l1, l2, l3, .val (.int v)] (.int v :: st) H Q := w_x (show decode kb0 131 = .ok (.iload 4, 2) from by decide +kernel) rfl
theorem m0_133 : M0 133 ls st H Q = M0 135 ls (.int 64 :: st) H Q := w_con (show decode kb0 133 = .ok (.bipush 64, 2) from by decide +kernel) rfl (by decide)
theorem m0_135 : M0 135 ls (.int y :: .int x :: st) H Q = if y < x then M0 138 ls st H Q else M0 142 ls st H Q := w_icmpN (show decode kb0 135 = .ok (.if_icmp .le 7, 3) from by decide +kernel) (i_le x y) rfl
theorem m0_138 : M0 138 ls st H Q = M0 140 ls (.int 64 :: st) H Q := w_con (show decode kb0 138 = .ok (.bipush 64, 2) from by decide +kernel) rfl (by decide)
theorem m0_140i : M0 140 [l0, l1, l2, l3, .val (.int z)] ((.int v) :: st) H Q = M0 142 [l0, l1, l2, l3, .val (.int v)] st H Q := w_st (i := 4) (p := isI) (show decode kb0 140 = .ok (.istore 4, 2) from by decide +kernel) rfl rfl rfl rfl rfl rfl
theorem m0_142 : M0 142 [.val (.ref r), l1, l2, l3, l4] st H Q = M0 143 [.val (.ref r), l1, l2, l3, l4] (.ref r :: st) H Q := w_x (show decode kb0 142 = .ok (.aload_n 0, 1) from by decide +kernel) rfl
theorem m0_143 : M0 143 [l0, l1, l2, .val (.int v), l4] st H Q = M0 144 [l0, l1, l2, .val (.int v), l4] (.int v :: st) H Q := w_x (show decode kb0 143 = .ok (.iload_n 3, 1) from by decide +kernel) rfl
theorem pf0_44 : pfR tables_1 y0.cls y0.name 44 = some ("SuffixAutomat", 11, .int) := by decide +kernel
theorem m0_144 : M0 144 ls (.int v :: .ref (b + 1) :: st) (put (b + 1) pre s A post) Q = M0 147 ls st (put (b + 1) pre (ou s 0 v) A post) Q := w_put (show decode kb0 144 = .ok (.putfield 44, 3) from by decide +kernel) pf0_44 put_o (Nat.succ_le_succ (Nat.zero_le _)) (by show 11 < 20; omega) rfl put_s0
theorem m0_147 : M0 147 [.val (.ref r), l1, l2, l3, l4] st H Q = M0 148 [.val (.ref r), l1, l2, l3, l4] (.ref r :: st) H Q := w_x (show decode kb0 147 = .ok (.aload_n 0, 1) from by decide +kernel) rfl
theorem m0_148 : M0 148 [l0, l1, l2, l3, .val (.int v)] st H Q = M0 150 [l0, l1, l2, l3, .val (.int v)] (.int v :: st) H Q := w_x (show decode kb0 148 = .ok (.iload 4, 2) from by decide +kernel) rfl
theorem pf0_48 : pfR tables_1 y0.cls y0.name 48 = some ("SuffixAutomat", 12, .int) := by decide +kernel
theorem m0_150 : M0 150 ls (.int v :: .ref (b + 1) :: st) (put (b + 1) pre s A post) Q = M0 153 ls st (put (b + 1) pre (ou s 1 v) A post) Q := w_put (show decode kb0 150 = .ok (.putfield 48, 3) from by decide +kernel) pf0_48 put_o (Nat.succ_le_succ (Nat.zero_le _)) (by show 12 < 20; omega) rfl put_s1
theorem m0_153 : M0 153 [.val (.ref r), l1, l2, l3, l4] st H Q = M0 154 [.val (.ref r), l1, l2, l3, l4] (.ref r :: st) H Q := w_x (show decode kb0 153 = .ok (.aload_n 0, 1) from by decide +kernel) rfl
theorem m0_154 : M0 154 ls st H Q = M0 155 ls (.int 0 :: st) H Q := w_con (show decode kb0 154 = .ok (.iconst 0, 1) from by decide +kernel) rfl (by decide)
theorem pf0_51 : pfR tables_1 y0.cls y0.name 51 = some ("SuffixAutomat", 13, .int) := by decide +kernel
theorem m0_155 : M0 155 ls (.int v :: .ref (b + 1) :: st) (put (b + 1) pre s A post) Q = M0 158 ls st (put (b + 1) pre (ou s 2 v) A post) Q := w_put (show decode kb0 155 = .ok (.putfield 51, 3) from by decide +kernel) pf0_51 put_o (Nat.succ_le_succ (Nat.zero_le _)) (by show 13 < 20; omega) rfl put_s2
theorem m0_158 : M0 158 [.val (.ref r), l1, l2, l3, l4] st H Q = M0 159 [.val (.ref r), l1, l2, l3, l4] (.ref r :: st) H Q := w_x (show decode kb0 158 = .ok (.aload_n 0, 1) from by decide +kernel) rfl
theorem m0_159 : M0 159 ls st H Q = M0 160 ls (.int 0 :: st) H Q := w_con (show decode kb0 159 = .ok (.iconst 0, 1) from by decide +kernel) rfl (by decide)
theorem pf0_54 : pfR tables_1 y0.cls y0.name 54 = some ("SuffixAutomat", 14, .int) := by decide +kernel
theorem m0_160 : M0 160 ls (.int v :: .ref (b + 1) :: st) (put (b + 1) pre s A post) Q = M0 163 ls st (put (b + 1) pre (ou s 3 v) A post) Q := w_put (show decode kb0 160 = .ok (.putfield 54, 3) from by decide +kernel) pf0_54 put_o (Nat.succ_le_succ (Nat.zero_le _)) (by show 14 < 20; omega) rfl put_s3
theorem m0_163 : M0 163 [.val (.ref r), l1, l2, l3, l4] st H Q = M0 164 [.val (.ref r), l1, l2, l3, l4] (.ref r :: st) H Q := w_x (show decode kb0 163 = .ok (.aload_n 0, 1) from by decide +kernel) rfl
theorem m0_164 : M0 164 ls st H Q = M0 165 ls (.int 0 :: st) H Q := w_con (show decode kb0 164 = .ok (.iconst 0, 1) from by decide +kernel) rfl (by decide)
theorem pf0_57 : pfR tables_1 y0.cls y0.name 57 = some ("SuffixAutomat", 15, .int) := by decide +kernel
theorem m0_165 : M0 165 ls (.int v :: .ref (b + 1) :: st) (put (b + 1) pre s A post) Q = M0 168 ls st (put (b + 1) pre (ou s 4 v) A post) Q := w_put (show decode kb0 165 = .ok (.putfield 57, 3) from by decide +kernel) pf0_57 put_o (Nat.succ_le_succ (Nat.zero_le _)) (by show 15 < 20; omega) rfl put_s4
theorem m0_168 : M0 168 [.val (.ref r), l1, l2, l3, l4] st H Q = M0 169 [.val (.ref r), l1, l2, l3, l4] (.ref r :: st) H Q := w_x (show decode kb0 168 = .ok (.aload_n 0, 1) from by decide +kernel) rfl
theorem cr0_60 : vR tables_1 dn y0 60 = some (true, y1, prog_1_method_18_code, 1, none, 0, 0) := pR_of (cR_of (by decide +kernel) rc_1 dn_1 dn_0 (sig := ⟨[], none⟩) (by decide +kernel) (by decide +kernel) rfl rfl) (by decide +kernel) (by decide +kernel)
theorem m0_169 : M0 169 ls [.ref (b + 1)] (put (b + 1) pre s A post) Q = M1 0 [.val (.ref (b + 1))] [] (put (b + 1) pre s A post) (fun v H1 => M0 172 ls (v.toList ++ []) H1 Q) := w_virt (as := []) (rest := []) (a := (b + 1)) (show decode kb0 169 = .ok (.invokevirtual 60, 3) from by decide +kernel) cr0_60 put_o rfl rfl (Nat.le_of_ble_eq_true rfl) (by show 1 ≤ 1; omega) rfl
theorem m0_172 : M0 172 ls [] H Q = Q none H := w_vret (show decode kb0 172 = .ok (.return_, 1) from by decide +kernel) rfl
theorem m1_0 : M1 0 [.val (.ref r)] st H Q = M1 1 [.val (.ref r)] (.ref r :: st) H Q := w_x (show decode kb1 0 = .ok (.aload_n 0, 1) from by decide +kernel) rfl
theorem m1_1 : M1 1 ls st H Q = M1 2 ls (.int 1 :: st) H Q := w_con (show decode kb1 1 = .ok (.iconst 1, 1) from by decide +kernel) rfl (by decide)
theorem pf1_77 : pfR tables_1 y1.cls y1.name 77 = some ("SuffixAutomat", 16, .int) := by decide +kernel
theorem m1_2 : M1 2 ls (.int v :: .ref (b + 1) :: st) (put (b + 1) pre s A post) Q = M1 5 ls st (put (b + 1) pre (ou s 5 v) A post) Q := w_put (show decode kb1 2 = .ok (.putfield 77, 3) from by decide +kernel) pf1_77 put_o (Nat.succ_le_succ (Nat.zero_le _)) (by show 16 < 20; omega) rfl put_s5
theorem m1_5 : M1 5 [.val (.ref r)] st H Q = M1 6 [.val (.ref r)] (.ref r :: st) H Q := w_x (show decode kb1 5 = .ok (.aload_n 0, 1) from by decide +kernel) rfl
theorem m1_6 : M1 6 ls st H Q = M1 7 ls (.int 0 :: st) H Q := w_con (show decode kb1 6 = .ok (.iconst 0, 1) from by decide +kernel) rfl (by decide)
theorem pf1_89 : pfR tables_1 y1.cls y1.name 89 = some ("SuffixAutomat", 17, .int) := by decide +kernel
theorem m1_7 : M1 7 ls (.int v :: .ref (b + 1) :: st) (put (b + 1) pre s A post) Q = M1 10 ls st (put (b + 1) pre (ou s 6 v) A post) Q := w_put (show decode kb1 7 = .ok (.putfield 89, 3) from by decide +kernel) pf1_89 put_o (Nat.succ_le_succ (Nat.zero_le _)) (by show 17 < 20; omega) rfl put_s6
theorem m1_10 : M1 10 [.val (.ref r)] st H Q = M1 11 [.val (.ref r)] (.ref r :: st) H Q := w_x (show decode kb1 10 = .ok (.aload_n 0, 1) from by decide +kernel) rfl
theorem m1_11 : M1 11 ls st H Q = M1 12 ls (.int 0 :: st) H Q := w_con (show decode kb1 11 = .ok (.iconst 0, 1) from by decide +kernel) rfl (by decide)
theorem pf1_74 : pfR tables_1 y1.cls y1.name 74 = some ("SuffixAutomat", 18, .int) := by decide +kernel
theorem m1_12 : M1 12 ls (.int v :: .ref (b + 1) :: st) (put (b + 1) pre s A post) Q = M1 15 ls st (put (b + 1) pre (ou s 7 v) A post) Q := w_put (show decode kb1 12 = .ok (.putfield 74, 3) from by decide +kernel) pf1_74 put_o (Nat.succ_le_succ (Nat.zero_le _)) (by show 18 < 20; omega) rfl put_s7
theorem m1_15 : M1 15 [.val (.ref r)] st H Q = M1 16 [.val (.ref r)] (.ref r :: st) H Q := w_x (show decode kb1 15 = .ok (.aload_n 0, 1) from by decide +kernel) rfl
theorem m1_16 : M1 16 ls st H Q = M1 17 ls (.int 0 :: st) H Q := w_con (show decode kb1 16 = .ok (.iconst 0, 1) from by decide +kernel) rfl (by decide)
theorem pf1_92 : pfR tables_1 y1.cls y1.name 92 = some ("SuffixAutomat", 19, .boolean) := by decide +kernel
theorem m1_17 : M1 17 ls (.int v :: .ref (b + 1) :: st) (put (b + 1) pre s A post) Q = M1 20 ls st (put (b + 1) pre (ou s 8 (nar .boolean v)) A post) Q := w_put (show decode kb1 17 = .ok (.putfield 92, 3) from by decide +kernel) pf1_92 put_o (Nat.succ_le_succ (Nat.zero_le _)) (by show 19 < 20; omega) rfl put_s8
theorem m1_20 : M1 20 [.val (.ref r)] st H Q = M1 21 [.val (.ref r)] (.ref r :: st) H Q := w_x (show decode kb1 20 = .ok (.aload_n 0, 1) from by decide +kernel) rfl
theorem m1_21 : M1 21 ls st H Q = M1 22 ls (.int 0 :: st) H Q := w_con (show decode kb1 21 = .ok (.iconst 0, 1) from by decide +kernel) rfl (by decide)
theorem cr1_96 : vR tables_1 dn y1 96 = some (true, y2, prog_1_method_19_code, 4, none, 1, 0) := pR_of (cR_of (by decide +kernel) rc_2 dn_2 dn_1 (sig := ⟨[.int], none⟩) (by decide +kernel) (by decide +kernel) rfl rfl) (by decide +kernel) (by decide +kernel)
theorem m1_22 (a0 : Int32) : M1 22 ls [.int a0, .ref (b + 1)] (put (b + 1) pre s A post) Q = M2 0 [.val (.ref (b + 1)), .val (.int a0), .unset, .unset] [] (put (b + 1) pre s A post) (fun v H1 => M1 25 ls (v.toList ++ []) H1 Q) := w_virt (as := [.int a0]) (rest := []) (a := (b + 1)) (show decode kb1 22 = .ok (.invokevirtual 96, 3) from by decide +kernel) cr1_96 put_o rfl rfl (Nat.le_of_ble_eq_true rfl) (by show 2 ≤ 4; omega) rfl
theorem m1_25 : M1 25 ls [] H Q = Q none H := w_vret (show decode kb1 25 = .ok (.return_, 1) from by decide +kernel) rfl
theorem m2_0 : M2 0 [l0, .val (.int v), l2, l3] st H Q = M2 1 [l0, .val (.int v), l2, l3] (.int v :: st) H Q := w_x (show decode kb2 0 = .ok (.iload_n 1, 1) from by decide +kernel) rfl
theorem m2_1 : M2 1 ls (.int x :: st) H Q = if x < 0 then M2 11 ls st H Q else M2 4 ls st H Q := w_if (show decode kb2 1 = .ok (.ifCond .lt 10, 3) from by decide +kernel) (z_lt x) rfl
theorem m2_4 : M2 4 [l0, .val (.int v), l2, l3] st H Q = M2 5 [l0, .val (.int v), l2, l3] (.int v :: st) H Q := w_x (show decode kb2 4 = .ok (.iload_n 1, 1) from by decide +kernel) rfl
theorem m2_5 : M2 5 ls st H Q = M2 8 ls (.int 128 :: st) H Q := w_con (show decode kb2 5 = .ok (.sipush 128, 3) from by decide +kernel) rfl (by decide)
theorem m2_8 : M2 8 ls (.int y :: .int x :: st) H Q = if x < y then M2 12 ls st H Q else M2 11 ls st H Q := w_icmp (show decode kb2 8 = .ok (.if_icmp .lt 4, 3) from by decide +kernel) (i_lt x y) rfl
theorem m2_11 : M2 11 ls [] H Q = Q none H := w_vret (show decode kb2 11 = .ok (.return_, 1) from by decide +kernel) rfl
theorem m2_12 : M2 12 [.val (.ref r), l1, l2, l3] st H Q = M2 13 [.val (.ref r), l1, l2, l3] (.ref r :: st) H Q := w_x (show decode kb2 12 = .ok (.aload_n 0, 1) from by decide +kernel) rfl
theorem m2_13 : M2 13 ls (.ref (b + 1) :: st) (put (b + 1) pre s A post) Q = M2 16 ls (.ref ((b + 1) + 6) :: st) (put (b + 1) pre s A post) Q := w_get (show decode kb2 13 = .ok (.getfield 25, 3) from by decide +kernel) gf_25 put_o rfl
theorem m2_16 : M2 16 [l0, .val (.int v), l2, l3] st H Q = M2 17 [l0, .val (.int v), l2, l3] (.int v :: st) H Q := w_x (show decode kb2 16 = .ok (.iload_n 1, 1) from by decide +kernel) rfl
theorem m2_17 : M2 17 ls st H Q = M2 18 ls (.int 0 :: st) H Q := w_con (show decode kb2 17 = .ok (.iconst 0, 1) from by decide +kernel) rfl (by decide)
theorem m2_18  : M2 18 ls (.int v :: .int j :: .ref ((b + 1) + 6) :: st) (put (b + 1) pre s A post) Q = (inB j (A 5) ∧ M2 19 ls st (put (b + 1) pre s (ou A 5 (setA (A 5) j v)) post) Q) := w_ist (show decode kb2 18 = .ok (.iastore, 1) from by decide +kernel) rfl put_a5 (by omega) rfl put_w5
theorem m2_19 : M2 19 [.val (.ref r), l1, l2, l3] st H Q = M2 20 [.val (.ref r), l1, l2, l3] (.ref r :: st) H Q := w_x (show decode kb2 19 = .ok (.aload_n 0, 1) from by decide +kernel) rfl
theorem m2_20 : M2 20 ls (.ref (b + 1) :: st) (put (b + 1) pre s A post) Q = M2 23 ls (.ref ((b + 1) + 5) :: st) (put (b + 1) pre s A post) Q := w_get (show decode kb2 20 = .ok (.getfield 22, 3) from by decide +kernel) gf_22 put_o rfl
theorem m2_23 : M2 23 [l0, .val (.int v), l2, l3] st H Q = M2 24 [l0, .val (.int v), l2, l3] (.int v :: st) H Q := w_x (show decode kb2 23 = .ok (.iload_n 1, 1) from by decide +kernel) rfl
theorem m2_24 : M2 24 ls st H Q = M2 25 ls (.int (-1) :: st) H Q := w_con (show decode kb2 24 = .ok (.iconst (-1), 1) from by decide +kernel) rfl (by decide)
theorem m2_25  : M2 25 ls (.int v :: .int j :: .ref ((b + 1) + 5) :: st) (put (b + 1) pre s A post) Q = (inB j (A 4) ∧ M2 26 ls st (put (b + 1) pre s (ou A 4 (setA (A 4) j v)) post) Q) := w_ist (show decode kb2 25 = .ok (.iastore, 1) from by decide +kernel) rfl put_a4 (by omega) rfl put_w4
theorem m2_26 : M2 26 [.val (.ref r), l1, l2, l3] st H Q = M2 27 [.val (.ref r), l1, l2, l3] (.ref r :: st) H Q := w_x (show decode kb2 26 = .ok (.aload_n 0, 1) from by decide +kernel) rfl
theorem m2_27 : M2 27 ls (.ref (b + 1) :: st) (put (b + 1) pre s A post) Q = M2 30 ls (.ref ((b + 1) + 7) :: st) (put (b + 1) pre s A post) Q := w_get (show decode kb2 27 = .ok (.getfield 28, 3) from by decide +kernel) gf_28 put_o rfl
theorem m2_30 : M2 30 [l0, .val (.int v), l2, l3] st H Q = M2 31 [l0, .val (.int v), l2, l3] (.int v :: st) H Q := w_x (show decode kb2 30 = .ok (.iload_n 1, 1) from by decide +kernel) rfl
theorem m2_31 : M2 31 ls st H Q = M2 32 ls (.int 0 :: st) H Q := w_con (show decode kb2 31 = .ok (.iconst 0, 1) from by decide +kernel) rfl (by decide)
theorem m2_32  : M2 32 ls (.int v :: .int j :: .ref ((b + 1) + 7) :: st) (put (b + 1) pre s A post) Q = (inB j (A 6) ∧ M2 33 ls st (put (b + 1) pre s (ou A 6 (setA (A 6) j v)) post) Q) := w_ist (show decode kb2 32 = .ok (.iastore, 1) from by decide +kernel) rfl put_a6 (by omega) rfl put_w6
theorem m2_33 : M2 33 [.val (.ref r), l1, l2, l3] st H Q = M2 34 [.val (.ref r), l1, l2, l3] (.ref r :: st) H Q := w_x (show decode kb2 33 = .ok (.aload_n 0, 1) from by decide +kernel) rfl
theorem m2_34 : M2 34 ls (.ref (b + 1) :: st) (put (b + 1) pre s A post) Q = M2 37 ls (.ref ((b + 1) + 8) :: st) (put (b + 1) pre s A post) Q := w_get (show decode kb2 34 = .ok (.getfield 31, 3) from by decide +kernel) gf_31 put_o rfl
theorem m2_37 : M2 37 [l0, .val (.int v), l2, l3] st H Q = M2 38 [l0, .val (.int v), l2, l3] (.int v :: st) H Q := w_x (show decode kb2 37 = .ok (.iload_n 1, 1) from by decide +kernel) rfl
theorem m2_38 : M2 38 ls st H Q = M2 39 ls (.int 0 :: st) H Q := w_con (show decode kb2 38 = .ok (.iconst 0, 1) from by decide +kernel) rfl (by decide)
theorem m2_39  : M2 39 ls (.int v :: .int j :: .ref ((b + 1) + 8) :: st) (put (b + 1) pre s A post) Q = (inB j (A 7) ∧ M2 40 ls st (put (b + 1) pre s (ou A 7 (setA (A 7) j (nar .boolean v))) post) Q) := w_ist (show decode kb2 39 = .ok (.bastore, 1) from by decide +kernel) rfl put_a7 (by omega) rfl put_w7
theorem m2_40 : M2 40 [.val (.ref r), l1, l2, l3] st H Q = M2 41 [.val (.ref r), l1, l2, l3] (.ref r :: st) H Q := w_x (show decode kb2 40 = .ok (.aload_n 0, 1) from by decide +kernel) rfl
theorem m2_41 : M2 41 ls (.ref (b + 1) :: st) (put (b + 1) pre s A post) Q = M2 44 ls (.ref ((b + 1) + 9) :: st) (put (b + 1) pre s A post) Q := w_get (show decode kb2 41 = .ok (.getfield 35, 3) from by decide +kernel) gf_35 put_o rfl
theorem m2_44 : M2 44 [l0, .val (.int v), l2, l3] st H Q = M2 45 [l0, .val (.int v), l2, l3] (.int v :: st) H Q := w_x (show decode kb2 44 = .ok (.iload_n 1, 1) from by decide +kernel) rfl
theorem m2_45 : M2 45 ls st H Q = M2 46 ls (.int 0 :: st) H Q := w_con (show decode kb2 45 = .ok (.iconst 0, 1) from by decide +kernel) rfl (by decide)
theorem m2_46  : M2 46 ls (.int v :: .int j :: .ref ((b + 1) + 9) :: st) (put (b + 1) pre s A post) Q = (inB j (A 8) ∧ M2 47 ls st (put (b + 1) pre s (ou A 8 (setA (A 8) j v)) post) Q) := w_ist (show decode kb2 46 = .ok (.iastore, 1) from by decide +kernel) rfl put_a8 (by omega) rfl put_w8
theorem m2_47 : M2 47 [l0, .val (.int v), l2, l3] st H Q = M2 48 [l0, .val (.int v), l2, l3] (.int v :: st) H Q := w_x (show decode kb2 47 = .ok (.iload_n 1, 1) from by decide +kernel) rfl
theorem m2_48 : M2 48 ls st H Q = M2 50 ls (.int 8 :: st) H Q := w_con (show decode kb2 48 = .ok (.bipush 8, 2) from by decide +kernel) rfl (by decide)
theorem m2_50 : M2 50 ls (.int y :: .int x :: st) H Q = M2 51 ls (.int (x * y) :: st) H Q := w_x (show decode kb2 50 = .ok (.imul, 1) from by decide +kernel) rfl
theorem m2_51u : M2 51 [l0, l1, .unset, l3] ((.int v) :: st) H Q = M2 52 [l0, l1, .val (.int v), l3] st H Q := w_st (i := 2) (p := isI) (show decode kb2 51 = .ok (.istore_n 2, 1) from by decide +kernel) rfl rfl rfl rfl rfl rfl
theorem m2_52 : M2 52 ls st H Q = M2 53 ls (.int 0 :: st) H Q := w_con (show decode kb2 52 = .ok (.iconst 0, 1) from by decide +kernel) rfl (by decide)
theorem m2_53u : M2 53 [l0, l1, l2, .unset] ((.int v) :: st) H Q = M2 54 [l0, l1, l2, .val (.int v)] st H Q := w_st (i := 3) (p := isI) (show decode kb2 53 = .ok (.istore_n 3, 1) from by decide +kernel) rfl rfl rfl rfl rfl rfl
theorem m2_54 : M2 54 [l0, l1, l2, .val (.int v)] st H Q = M2 55 [l0, l1, l2, .val (.int v)] (.int v :: st) H Q := w_x (show decode kb2 54 = .ok (.iload_n 3, 1) from by decide +kernel) rfl
theorem m2_55 : M2 55 ls st H Q = M2 57 ls (.int 8 :: st) H Q := w_con (show decode kb2 55 = .ok (.bipush 8, 2) from by decide +kernel) rfl (by decide)
theorem m2_57 : M2 57 ls (.int y :: .int x :: st) H Q = if x < y then M2 60 ls st H Q else M2 75 ls st H Q := w_icmpN (show decode kb2 57 = .ok (.if_icmp .ge 18, 3) from by decide +kernel) (i_ge x y) rfl
theorem m2_60 : M2 60 [.val (.ref r), l1, l2, l3] st H Q = M2 61 [.val (.ref r), l1, l2, l3] (.ref r :: st) H Q := w_x (show decode kb2 60 = .ok (.aload_n 0, 1) from by decide +kernel) rfl
theorem m2_61 : M2 61 ls (.ref (b + 1) :: st) (put (b + 1) pre s A post) Q = M2 64 ls (.ref ((b + 1) + 4) :: st) (put (b + 1) pre s A post) Q := w_get (show decode kb2 61 = .ok (.getfield 19, 3) from by decide +kernel) gf_19 put_o rfl
theorem m2_64 : M2 64 [l0, l1, .val (.int v), l3] st H Q = M2 65 [l0, l1, .val (.int v), l3] (.int v :: st) H Q := w_x (show decode kb2 64 = .ok (.iload_n 2, 1) from by decide +kernel) rfl
theorem m2_65 : M2 65 [l0, l1, l2, .val (.int v)] st H Q = M2 66 [l0, l1, l2, .val (.int v)] (.int v :: st) H Q := w_x (show decode kb2 65 = .ok (.iload_n 3, 1) from by decide +kernel) rfl
theorem m2_66 : M2 66 ls (.int y :: .int x :: st) H Q = M2 67 ls (.int (x + y) :: st) H Q := w_x (show decode kb2 66 = .ok (.iadd, 1) from by decide +kernel) rfl
theorem m2_67 : M2 67 ls st H Q = M2 68 ls (.int (-1) :: st) H Q := w_con (show decode kb2 67 = .ok (.iconst (-1), 1) from by decide +kernel) rfl (by decide)
theorem m2_68  : M2 68 ls (.int v :: .int j :: .ref ((b + 1) + 4) :: st) (put (b + 1) pre s A post) Q = (inB j (A 3) ∧ M2 69 ls st (put (b + 1) pre s (ou A 3 (setA (A 3) j v)) post) Q) := w_ist (show decode kb2 68 = .ok (.iastore, 1) from by decide +kernel) rfl put_a3 (by omega) rfl put_w3
theorem m2_69 : M2 69 [l0, l1, l2, .val (.int v)] st H Q = M2 72 [l0, l1, l2, .val (.int (v + 1))] st H Q := w_iinc (show decode kb2 69 = .ok (.iinc 3 1, 3) from by decide +kernel) rfl (by decide) rfl
theorem m2_72 : M2 72 ls st H Q = M2 54 ls st H Q := w_x (show decode kb2 72 = .ok (.goto (-18), 3) from by decide +kernel) rfl
theorem m2_75 : M2 75 ls [] H Q = Q none H := w_vret (show decode kb2 75 = .ok (.return_, 1) from by decide +kernel) rfl
theorem m3_0 : M3 0 [.val (.ref r)] st H Q = M3 1 [.val (.ref r)] (.ref r :: st) H Q := w_x (show decode kb3 0 = .ok (.aload_n 0, 1) from by decide +kernel) rfl
theorem m3_1 : M3 1 ls (.ref (b + 1) :: st) (put (b + 1) pre s A post) Q = M3 4 ls (.int (s 2) :: st) (put (b + 1) pre s A post) Q := w_get (show decode kb3 1 = .ok (.getfield 51, 3) from by decide +kernel) gf_51 put_o rfl
theorem m3_4 : M3 4 ls (.int z :: st) H Q = Q (some (.int z)) H := w_iret (show decode kb3 4 = .ok (.ireturn, 1) from by decide +kernel) rfl
theorem m4_0 : M4 0 [.val (.ref r)] st H Q = M4 1 [.val (.ref r)] (.ref r :: st) H Q := w_x (show decode kb4 0 = .ok (.aload_n 0, 1) from by decide +kernel) rfl
theorem m4_1 : M4 1 ls (.ref (b + 1) :: st) (put (b + 1) pre s A post) Q = M4 4 ls (.int (s 3) :: st) (put (b + 1) pre s A post) Q := w_get (show decode kb4 1 = .ok (.getfield 54, 3) from by decide +kernel) gf_54 put_o rfl
theorem m4_4 : M4 4 ls (.int z :: st) H Q = Q (some (.int z)) H := w_iret (show decode kb4 4 = .ok (.ireturn, 1) from by decide +kernel) rfl
theorem m5_0 : M5 0 [.val (.ref r), l1] st H Q = M5 1 [.val (.ref r), l1] (.ref r :: st) H Q := w_x (show decode kb5 0 = .ok (.aload_n 0, 1) from by decide +kernel) rfl
theorem m5_1 : M5 1 ls (.ref (b + 1) :: st) (put (b + 1) pre s A post) Q = M5 4 ls (.int (s 3) :: st) (put (b + 1) pre s A post) Q := w_get (show decode kb5 1 = .ok (.getfield 54, 3) from by decide +kernel) gf_54 put_o rfl
theorem m5_4 : M5 4 ls (.int x :: st) H Q = if x = 0 then M5 7 ls st H Q else M5 14 ls st H Q := w_ifN (show decode kb5 4 = .ok (.ifCond .ne 10, 3) from by decide +kernel) (z_ne x) rfl
theorem m5_7 : M5 7 [.val (.ref r), l1] st H Q = M5 8 [.val (.ref r), l1] (.ref r :: st) H Q := w_x (show decode kb5 7 = .ok (.aload_n 0, 1) from by decide +kernel) rfl
theorem m5_8 : M5 8 ls (.ref (b + 1) :: st) (put (b + 1) pre s A post) Q = M5 11 ls (.int (s 2) :: st) (put (b + 1) pre s A post) Q := w_get (show decode kb5 8 = .ok (.getfield 51, 3) from by decide +kernel) gf_51 put_o rfl
theorem m5_11 : M5 11 ls st H Q = M5 12 ls (.int 1 :: st) H Q := w_con (show decode kb5 11 = .ok (.iconst 1, 1) from by decide +kernel) rfl (by decide)
theorem m5_12 : M5 12 ls (.int y :: .int x :: st) H Q = M5 13 ls (.int (x + y) :: st) H Q := w_x (show decode kb5 12 = .ok (.iadd, 1) from by decide +kernel) rfl
theorem m5_13 : M5 13 ls (.int z :: st) H Q = Q (some (.int z)) H := w_iret (show decode kb5 13 = .ok (.ireturn, 1) from by decide +kernel) rfl
theorem m5_14 : M5 14 [.val (.ref r), l1] st H Q = M5 15 [.val (.ref r), l1] (.ref r :: st) H Q := w_x (show decode kb5 14 = .ok (.aload_n 0, 1) from by decide +kernel) rfl
theorem m5_15 : M5 15 ls (.ref (b + 1) :: st) (put (b + 1) pre s A post) Q = M5 18 ls (.int (s 3) :: st) (put (b + 1) pre s A post) Q := w_get (show decode kb5 15 = .ok (.getfield 54, 3) from by decide +kernel) gf_54 put_o rfl
theorem m5_18 : M5 18 [.val (.ref r), l1] st H Q = M5 19 [.val (.ref r), l1] (.ref r :: st) H Q := w_x (show decode kb5 18 = .ok (.aload_n 0, 1) from by decide +kernel) rfl
theorem m5_19 : M5 19 ls (.ref (b + 1) :: st) (put (b + 1) pre s A post) Q = M5 22 ls (.int (s 2) :: st) (put (b + 1) pre s A post) Q := w_get (show decode kb5 19 = .ok (.getfield 51, 3) from by decide +kernel) gf_51 put_o rfl
theorem m5_22 : M5 22 ls (.int y :: .int x :: st) H Q = if y < x then M5 25 ls st H Q else M5 27 ls st H Q := w_icmpN (show decode kb5 22 = .ok (.if_icmp .le 5, 3) from by decide +kernel) (i_le x y) rfl
theorem m5_25 : M5 25 ls st H Q = M5 26 ls (.int 0 :: st) H Q := w_con (show decode kb5 25 = .ok (.iconst 0, 1) from by decide +kernel) rfl (by decide)
theorem m5_26 : M5 26 ls (.int z :: st) H Q = Q (some (.int z)) H := w_iret (show decode kb5 26 = .ok (.ireturn, 1) from by decide +kernel) rfl
theorem m5_27 : M5 27 [.val (.ref r), l1] st H Q = M5 28 [.val (.ref r), l1] (.ref r :: st) H Q := w_x (show decode kb5 27 = .ok (.aload_n 0, 1) from by decide +kernel) rfl
theorem cr5_67 : vR tables_1 dn y5 67 = some (true, y13, prog_1_method_23_code, 5, (some .int), 0, 14) := pR_of (cR_of (by decide +kernel) rc_13 dn_13 dn_5 (sig := ⟨[], some .int⟩) (by decide +kernel) (by decide +kernel) rfl rfl) (by decide +kernel) (by decide +kernel)
theorem m5_28 : M5 28 ls [.ref (b + 1)] (put (b + 1) pre s A post) Q = M13 0 [.val (.ref (b + 1)), .unset, .unset, .unset, .unset] [] (put (b + 1) pre s A post) (fun v H1 => M5 31 ls (v.toList ++ []) H1 Q) := w_virt (as := []) (rest := []) (a := (b + 1)) (show decode kb5 28 = .ok (.invokevirtual 67, 3) from by decide +kernel) cr5_67 put_o rfl rfl (Nat.le_of_ble_eq_true rfl) (by show 1 ≤ 5; omega) rfl
theorem m5_31u : M5 31 [l0, .unset] ((.int v) :: st) H Q = M5 32 [l0, .val (.int v)] st H Q := w_st (i := 1) (p := isI) (show decode kb5 31 = .ok (.istore_n 1, 1) from by decide +kernel) rfl rfl rfl rfl rfl rfl
theorem m5_32 : M5 32 [l0, .val (.int v)] st H Q = M5 33 [l0, .val (.int v)] (.int v :: st) H Q := w_x (show decode kb5 32 = .ok (.iload_n 1, 1) from by decide +kernel) rfl
theorem m5_33 : M5 33 ls st H Q = M5 34 ls (.int (-1) :: st) H Q := w_con (show decode kb5 33 = .ok (.iconst (-1), 1) from by decide +kernel) rfl (by decide)
theorem m5_34 : M5 34 ls (.int y :: .int x :: st) H Q = if x = y then M5 37 ls st H Q else M5 39 ls st H Q := w_icmpN (show decode kb5 34 = .ok (.if_icmp .ne 5, 3) from by decide +kernel) (i_ne x y) rfl
theorem m5_37 : M5 37 ls st H Q = M5 38 ls (.int 0 :: st) H Q := w_con (show decode kb5 37 = .ok (.iconst 0, 1) from by decide +kernel) rfl (by decide)
theorem m5_38 : M5 38 ls (.int z :: st) H Q = Q (some (.int z)) H := w_iret (show decode kb5 38 = .ok (.ireturn, 1) from by decide +kernel) rfl
theorem m5_39 : M5 39 [.val (.ref r), l1] st H Q = M5 40 [.val (.ref r), l1] (.ref r :: st) H Q := w_x (show decode kb5 39 = .ok (.aload_n 0, 1) from by decide +kernel) rfl
theorem cr5_71 : vR tables_1 dn y5 71 = some (true, y14, prog_1_method_24_code, 4, none, 0, 0) := pR_of (cR_of (by decide +kernel) rc_14 dn_14 dn_5 (sig := ⟨[], none⟩) (by decide +kernel) (by decide +kernel) rfl rfl) (by decide +kernel) (by decide +kernel)
theorem m5_40 : M5 40 ls [.ref (b + 1)] (put (b + 1) pre s A post) Q = M14 0 [.val (.ref (b + 1)), .unset, .unset, .unset] [] (put (b + 1) pre s A post) (fun v H1 => M5 43 ls (v.toList ++ []) H1 Q) := w_virt (as := []) (rest := []) (a := (b + 1)) (show decode kb5 40 = .ok (.invokevirtual 71, 3) from by decide +kernel) cr5_71 put_o rfl rfl (Nat.le_of_ble_eq_true rfl) (by show 1 ≤ 4; omega) rfl
theorem m5_43 : M5 43 [.val (.ref r), l1] st H Q = M5 44 [.val (.ref r), l1] (.ref r :: st) H Q := w_x (show decode kb5 43 = .ok (.aload_n 0, 1) from by decide +kernel) rfl
theorem m5_44 : M5 44 ls (.ref (b + 1) :: st) (put (b + 1) pre s A post) Q = M5 47 ls (.ref ((b + 1) + 9) :: st) (put (b + 1) pre s A post) Q := w_get (show decode kb5 44 = .ok (.getfield 35, 3) from by decide +kernel) gf_35 put_o rfl
theorem m5_47 : M5 47 [l0, .val (.int v)] st H Q = M5 48 [l0, .val (.int v)] (.int v :: st) H Q := w_x (show decode kb5 47 = .ok (.iload_n 1, 1) from by decide +kernel) rfl
theorem m5_48  : M5 48 ls (.int j :: .ref ((b + 1) + 9) :: st) (put (b + 1) pre s A post) Q = (inB j (A 8) ∧ M5 49 ls (.int (getA (A 8) j) :: st) (put (b + 1) pre s A post) Q) := w_ild (show decode kb5 48 = .ok (.iaload, 1) from by decide +kernel) rfl put_a8
theorem m5_49 : M5 49 ls (.int z :: st) H Q = Q (some (.int z)) H := w_iret (show decode kb5 49 = .ok (.ireturn, 1) from by decide +kernel) rfl
theorem m6_0 : M6 0 [.val (.ref r)] st H Q = M6 1 [.val (.ref r)] (.ref r :: st) H Q := w_x (show decode kb6 0 = .ok (.aload_n 0, 1) from by decide +kernel) rfl
theorem m6_1 : M6 1 ls (.ref (b + 1) :: st) (put (b + 1) pre s A post) Q = M6 4 ls (.int (s 3) :: st) (put (b + 1) pre s A post) Q := w_get (show decode kb6 1 = .ok (.getfield 54, 3) from by decide +kernel) gf_54 put_o rfl
theorem m6_4 : M6 4 ls (.int x :: st) H Q = if x = 0 then M6 7 ls st H Q else M6 9 ls st H Q := w_ifN (show decode kb6 4 = .ok (.ifCond .ne 5, 3) from by decide +kernel) (z_ne x) rfl
theorem m6_7 : M6 7 ls st H Q = M6 8 ls (.int 1 :: st) H Q := w_con (show decode kb6 7 = .ok (.iconst 1, 1) from by decide +kernel) rfl (by decide)
theorem m6_8 : M6 8 ls (.int z :: st) H Q = Q (some (.int (nar .boolean z))) H := w_iretN (show decode kb6 8 = .ok (.ireturn, 1) from by decide +kernel) rfl (by simp)
theorem m6_9 : M6 9 [.val (.ref r)] st H Q = M6 10 [.val (.ref r)] (.ref r :: st) H Q := w_x (show decode kb6 9 = .ok (.aload_n 0, 1) from by decide +kernel) rfl
theorem m6_10 : M6 10 ls (.ref (b + 1) :: st) (put (b + 1) pre s A post) Q = M6 13 ls (.int (s 3) :: st) (put (b + 1) pre s A post) Q := w_get (show decode kb6 10 = .ok (.getfield 54, 3) from by decide +kernel) gf_54 put_o rfl
theorem m6_13 : M6 13 [.val (.ref r)] st H Q = M6 14 [.val (.ref r)] (.ref r :: st) H Q := w_x (show decode kb6 13 = .ok (.aload_n 0, 1) from by decide +kernel) rfl
theorem m6_14 : M6 14 ls (.ref (b + 1) :: st) (put (b + 1) pre s A post) Q = M6 17 ls (.int (s 2) :: st) (put (b + 1) pre s A post) Q := w_get (show decode kb6 14 = .ok (.getfield 51, 3) from by decide +kernel) gf_51 put_o rfl
theorem m6_17 : M6 17 ls (.int y :: .int x :: st) H Q = if y < x then M6 20 ls st H Q else M6 22 ls st H Q := w_icmpN (show decode kb6 17 = .ok (.if_icmp .le 5, 3) from by decide +kernel) (i_le x y) rfl
theorem m6_20 : M6 20 ls st H Q = M6 21 ls (.int 0 :: st) H Q := w_con (show decode kb6 20 = .ok (.iconst 0, 1) from by decide +kernel) rfl (by decide)
theorem m6_21 : M6 21 ls (.int z :: st) H Q = Q (some (.int (nar .boolean z))) H := w_iretN (show decode kb6 21 = .ok (.ireturn, 1) from by decide +kernel) rfl (by simp)
theorem m6_22 : M6 22 [.val (.ref r)] st H Q = M6 23 [.val (.ref r)] (.ref r :: st) H Q := w_x (show decode kb6 22 = .ok (.aload_n 0, 1) from by decide +kernel) rfl
theorem cr6_67 : vR tables_1 dn y6 67 = some (true, y13, prog_1_method_23_code, 5, (some .int), 0, 0) := pR_of (cR_of (by decide +kernel) rc_13 dn_13 dn_6 (sig := ⟨[], some .int⟩) (by decide +kernel) (by decide +kernel) rfl rfl) (by decide +kernel) (by decide +kernel)
theorem m6_23 : M6 23 ls [.ref (b + 1)] (put (b + 1) pre s A post) Q = M13 0 [.val (.ref (b + 1)), .unset, .unset, .unset, .unset] [] (put (b + 1) pre s A post) (fun v H1 => M6 26 ls (v.toList ++ []) H1 Q) := w_virt (as := []) (rest := []) (a := (b + 1)) (show decode kb6 23 = .ok (.invokevirtual 67, 3) from by decide +kernel) cr6_67 put_o rfl rfl (Nat.le_of_ble_eq_true rfl) (by show 1 ≤ 5; omega) rfl
theorem m6_26 : M6 26 ls st H Q = M6 27 ls (.int (-1) :: st) H Q := w_con (show decode kb6 26 = .ok (.iconst (-1), 1) from by decide +kernel) rfl (by decide)
theorem m6_27 : M6 27 ls (.int y :: .int x :: st) H Q = if x = y then M6 34 ls st H Q else M6 30 ls st H Q := w_icmp (show decode kb6 27 = .ok (.if_icmp .eq 7, 3) from by decide +kernel) (i_eq x y) rfl
theorem m6_30 : M6 30 ls st H Q = M6 31 ls (.int 1 :: st) H Q := w_con (show decode kb6 30 = .ok (.iconst 1, 1) from by decide +kernel) rfl (by decide)
theorem m6_31 : M6 31 ls st H Q = M6 35 ls st H Q := w_x (show decode kb6 31 = .ok (.goto 4, 3) from by decide +kernel) rfl
theorem m6_34 : M6 34 ls st H Q = M6 35 ls (.int 0 :: st) H Q := w_con (show decode kb6 34 = .ok (.iconst 0, 1) from by decide +kernel) rfl (by decide)
theorem m6_35 : M6 35 ls (.int z :: st) H Q = Q (some (.int (nar .boolean z))) H := w_iretN (show decode kb6 35 = .ok (.ireturn, 1) from by decide +kernel) rfl (by simp)
theorem m7_0 : M7 0 [.val (.ref r), l1] st H Q = M7 1 [.val (.ref r), l1] (.ref r :: st) H Q := w_x (show decode kb7 0 = .ok (.aload_n 0, 1) from by decide +kernel) rfl
theorem m7_1 : M7 1 ls (.ref (b + 1) :: st) (put (b + 1) pre s A post) Q = M7 4 ls (.int (s 3) :: st) (put (b + 1) pre s A post) Q := w_get (show decode kb7 1 = .ok (.getfield 54, 3) from by decide +kernel) gf_54 put_o rfl
theorem m7_4 : M7 4 ls (.int x :: st) H Q = if x = 0 then M7 7 ls st H Q else M7 9 ls st H Q := w_ifN (show decode kb7 4 = .ok (.ifCond .ne 5, 3) from by decide +kernel) (z_ne x) rfl
theorem m7_7 : M7 7 ls st H Q = M7 8 ls (.int 0 :: st) H Q := w_con (show decode kb7 7 = .ok (.iconst 0, 1) from by decide +kernel) rfl (by decide)
theorem m7_8 : M7 8 ls (.int z :: st) H Q = Q (some (.int z)) H := w_iret (show decode kb7 8 = .ok (.ireturn, 1) from by decide +kernel) rfl
theorem m7_9 : M7 9 [.val (.ref r), l1] st H Q = M7 10 [.val (.ref r), l1] (.ref r :: st) H Q := w_x (show decode kb7 9 = .ok (.aload_n 0, 1) from by decide +kernel) rfl
theorem m7_10 : M7 10 ls (.ref (b + 1) :: st) (put (b + 1) pre s A post) Q = M7 13 ls (.int (s 3) :: st) (put (b + 1) pre s A post) Q := w_get (show decode kb7 10 = .ok (.getfield 54, 3) from by decide +kernel) gf_54 put_o rfl
theorem m7_13 : M7 13 [.val (.ref r), l1] st H Q = M7 14 [.val (.ref r), l1] (.ref r :: st) H Q := w_x (show decode kb7 13 = .ok (.aload_n 0, 1) from by decide +kernel) rfl
theorem m7_14 : M7 14 ls (.ref (b + 1) :: st) (put (b + 1) pre s A post) Q = M7 17 ls (.int (s 2) :: st) (put (b + 1) pre s A post) Q := w_get (show decode kb7 14 = .ok (.getfield 51, 3) from by decide +kernel) gf_51 put_o rfl
theorem m7_17 : M7 17 ls (.int y :: .int x :: st) H Q = if y < x then M7 20 ls st H Q else M7 22 ls st H Q := w_icmpN (show decode kb7 17 = .ok (.if_icmp .le 5, 3) from by decide +kernel) (i_le x y) rfl
theorem m7_20 : M7 20 ls st H Q = M7 21 ls (.int (-1) :: st) H Q := w_con (show decode kb7 20 = .ok (.iconst (-1), 1) from by decide +kernel) rfl (by decide)
theorem m7_21 : M7 21 ls (.int z :: st) H Q = Q (some (.int z)) H := w_iret (show decode kb7 21 = .ok (.ireturn, 1) from by decide +kernel) rfl
theorem m7_22 : M7 22 [.val (.ref r), l1] st H Q = M7 23 [.val (.ref r), l1] (.ref r :: st) H Q := w_x (show decode kb7 22 = .ok (.aload_n 0, 1) from by decide +kernel) rfl
theorem cr7_67 : vR tables_1 dn y7 67 = some (true, y13, prog_1_method_23_code, 5, (some .int), 0, 0) := pR_of (cR_of (by decide +kernel) rc_13 dn_13 dn_7 (sig := ⟨[], some .int⟩) (by decide +kernel) (by decide +kernel) rfl rfl) (by decide +kernel) (by decide +kernel)
theorem m7_23 : M7 23 ls [.ref (b + 1)] (put (b + 1) pre s A post) Q = M13 0 [.val (.ref (b + 1)), .unset, .unset, .unset, .unset] [] (put (b + 1) pre s A post) (fun v H1 => M7 26 ls (v.toList ++ []) H1 Q) := w_virt (as := []) (rest := []) (a := (b + 1)) (show decode kb7 23 = .ok (.invokevirtual 67, 3) from by decide +kernel) cr7_67 put_o rfl rfl (Nat.le_of_ble_eq_true rfl) (by show 1 ≤ 5; omega) rfl
theorem m7_26u : M7 26 [l0, .unset] ((.int v) :: st) H Q = M7 27 [l0, .val (.int v)] st H Q := w_st (i := 1) (p := isI) (show decode kb7 26 = .ok (.istore_n 1, 1) from by decide +kernel) rfl rfl rfl rfl rfl rfl
theorem m7_27 : M7 27 [l0, .val (.int v)] st H Q = M7 28 [l0, .val (.int v)] (.int v :: st) H Q := w_x (show decode kb7 27 = .ok (.iload_n 1, 1) from by decide +kernel) rfl
theorem m7_28 : M7 28 ls st H Q = M7 29 ls (.int (-1) :: st) H Q := w_con (show decode kb7 28 = .ok (.iconst (-1), 1) from by decide +kernel) rfl (by decide)
theorem m7_29 : M7 29 ls (.int y :: .int x :: st) H Q = if x = y then M7 32 ls st H Q else M7 34 ls st H Q := w_icmpN (show decode kb7 29 = .ok (.if_icmp .ne 5, 3) from by decide +kernel) (i_ne x y) rfl
theorem m7_32 : M7 32 ls st H Q = M7 33 ls (.int (-1) :: st) H Q := w_con (show decode kb7 32 = .ok (.iconst (-1), 1) from by decide +kernel) rfl (by decide)
theorem m7_33 : M7 33 ls (.int z :: st) H Q = Q (some (.int z)) H := w_iret (show decode kb7 33 = .ok (.ireturn, 1) from by decide +kernel) rfl
theorem m7_34 : M7 34 [.val (.ref r), l1] st H Q = M7 35 [.val (.ref r), l1] (.ref r :: st) H Q := w_x (show decode kb7 34 = .ok (.aload_n 0, 1) from by decide +kernel) rfl
theorem m7_35 : M7 35 ls (.ref (b + 1) :: st) (put (b + 1) pre s A post) Q = M7 38 ls (.ref ((b + 1) + 7) :: st) (put (b + 1) pre s A post) Q := w_get (show decode kb7 35 = .ok (.getfield 28, 3) from by decide +kernel) gf_28 put_o rfl
theorem m7_38 : M7 38 [l0, .val (.int v)] st H Q = M7 39 [l0, .val (.int v)] (.int v :: st) H Q := w_x (show decode kb7 38 = .ok (.iload_n 1, 1) from by decide +kernel) rfl
theorem m7_39  : M7 39 ls (.int j :: .ref ((b + 1) + 7) :: st) (put (b + 1) pre s A post) Q = (inB j (A 6) ∧ M7 40 ls (.int (getA (A 6) j) :: st) (put (b + 1) pre s A post) Q) := w_ild (show decode kb7 39 = .ok (.iaload, 1) from by decide +kernel) rfl put_a6
theorem m7_40 : M7 40 [.val (.ref r), l1] st H Q = M7 41 [.val (.ref r), l1] (.ref r :: st) H Q := w_x (show decode kb7 40 = .ok (.aload_n 0, 1) from by decide +kernel) rfl
theorem m7_41 : M7 41 ls (.ref (b + 1) :: st) (put (b + 1) pre s A post) Q = M7 44 ls (.int (s 3) :: st) (put (b + 1) pre s A post) Q := w_get (show decode kb7 41 = .ok (.getfield 54, 3) from by decide +kernel) gf_54 put_o rfl
theorem m7_44 : M7 44 ls (.int y :: .int x :: st) H Q = M7 45 ls (.int (x - y) :: st) H Q := w_x (show decode kb7 44 = .ok (.isub, 1) from by decide +kernel) rfl
theorem m7_45 : M7 45 ls st H Q = M7 46 ls (.int 1 :: st) H Q := w_con (show decode kb7 45 = .ok (.iconst 1, 1) from by decide +kernel) rfl (by decide)
theorem m7_46 : M7 46 ls (.int y :: .int x :: st) H Q = M7 47 ls (.int (x + y) :: st) H Q := w_x (show decode kb7 46 = .ok (.iadd, 1) from by decide +kernel) rfl
theorem m7_47 : M7 47 ls (.int z :: st) H Q = Q (some (.int z)) H := w_iret (show decode kb7 47 = .ok (.ireturn, 1) from by decide +kernel) rfl
theorem m8_0 : M8 0 [l0, .val (.int v)] st H Q = M8 1 [l0, .val (.int v)] (.int v :: st) H Q := w_x (show decode kb8 0 = .ok (.iload_n 1, 1) from by decide +kernel) rfl
theorem m8_1 : M8 1 ls (.int x :: st) H Q = if x < 0 then M8 12 ls st H Q else M8 4 ls st H Q := w_if (show decode kb8 1 = .ok (.ifCond .lt 11, 3) from by decide +kernel) (z_lt x) rfl
theorem m8_4 : M8 4 [l0, .val (.int v)] st H Q = M8 5 [l0, .val (.int v)] (.int v :: st) H Q := w_x (show decode kb8 4 = .ok (.iload_n 1, 1) from by decide +kernel) rfl
theorem m8_5 : M8 5 [.val (.ref r), l1] st H Q = M8 6 [.val (.ref r), l1] (.ref r :: st) H Q := w_x (show decode kb8 5 = .ok (.aload_n 0, 1) from by decide +kernel) rfl
theorem m8_6 : M8 6 ls (.ref (b + 1) :: st) (put (b + 1) pre s A post) Q = M8 9 ls (.int (s 0) :: st) (put (b + 1) pre s A post) Q := w_get (show decode kb8 6 = .ok (.getfield 44, 3) from by decide +kernel) gf_44 put_o rfl
theorem m8_9 : M8 9 ls (.int y :: .int x :: st) H Q = if x < y then M8 14 ls st H Q else M8 12 ls st H Q := w_icmp (show decode kb8 9 = .ok (.if_icmp .lt 5, 3) from by decide +kernel) (i_lt x y) rfl
theorem m8_12 : M8 12 ls st H Q = M8 13 ls (.int 0 :: st) H Q := w_con (show decode kb8 12 = .ok (.iconst 0, 1) from by decide +kernel) rfl (by decide)
theorem m8_13 : M8 13 ls (.int z :: st) H Q = Q (some (.int (nar .boolean z))) H := w_iretN (show decode kb8 13 = .ok (.ireturn, 1) from by decide +kernel) rfl (by simp)
theorem m8_14 : M8 14 [.val (.ref r), l1] st H Q = M8 15 [.val (.ref r), l1] (.ref r :: st) H Q := w_x (show decode kb8 14 = .ok (.aload_n 0, 1) from by decide +kernel) rfl
theorem m8_15 : M8 15 ls (.ref (b + 1) :: st) (put (b + 1) pre s A post) Q = M8 18 ls (.int (s 2) :: st) (put (b + 1) pre s A post) Q := w_get (show decode kb8 15 = .ok (.getfield 51, 3) from by decide +kernel) gf_51 put_o rfl
theorem m8_18 : M8 18 [.val (.ref r), l1] st H Q = M8 19 [.val (.ref r), l1] (.ref r :: st) H Q := w_x (show decode kb8 18 = .ok (.aload_n 0, 1) from by decide +kernel) rfl
theorem m8_19 : M8 19 ls (.ref (b + 1) :: st) (put (b + 1) pre s A post) Q = M8 22 ls (.int (s 1) :: st) (put (b + 1) pre s A post) Q := w_get (show decode kb8 19 = .ok (.getfield 48, 3) from by decide +kernel) gf_48 put_o rfl
theorem m8_22 : M8 22 ls (.int y :: .int x :: st) H Q = if x < y then M8 27 ls st H Q else M8 25 ls st H Q := w_icmp (show decode kb8 22 = .ok (.if_icmp .lt 5, 3) from by decide +kernel) (i_lt x y) rfl
theorem m8_25 : M8 25 ls st H Q = M8 26 ls (.int 0 :: st) H Q := w_con (show decode kb8 25 = .ok (.iconst 0, 1) from by decide +kernel) rfl (by decide)
theorem m8_26 : M8 26 ls (.int z :: st) H Q = Q (some (.int (nar .boolean z))) H := w_iretN (show decode kb8 26 = .ok (.ireturn, 1) from by decide +kernel) rfl (by simp)
theorem m8_27 : M8 27 [.val (.ref r), l1] st H Q = M8 28 [.val (.ref r), l1] (.ref r :: st) H Q := w_x (show decode kb8 27 = .ok (.aload_n 0, 1) from by decide +kernel) rfl
theorem m8_28 : M8 28 ls (.ref (b + 1) :: st) (put (b + 1) pre s A post) Q = M8 31 ls (.ref ((b + 1) + 1) :: st) (put (b + 1) pre s A post) Q := w_get (show decode kb8 28 = .ok (.getfield 7, 3) from by decide +kernel) gf_7 put_o rfl
theorem m8_31 : M8 31 [.val (.ref r), l1] st H Q = M8 32 [.val (.ref r), l1] (.ref r :: st) H Q := w_x (show decode kb8 31 = .ok (.aload_n 0, 1) from by decide +kernel) rfl
theorem m8_32 : M8 32 ls (.ref (b + 1) :: st) (put (b + 1) pre s A post) Q = M8 35 ls (.int (s 2) :: st) (put (b + 1) pre s A post) Q := w_get (show decode kb8 32 = .ok (.getfield 51, 3) from by decide +kernel) gf_51 put_o rfl
theorem m8_35 : M8 35 [l0, .val (.int v)] st H Q = M8 36 [l0, .val (.int v)] (.int v :: st) H Q := w_x (show decode kb8 35 = .ok (.iload_n 1, 1) from by decide +kernel) rfl
theorem m8_36  : M8 36 ls (.int v :: .int j :: .ref ((b + 1) + 1) :: st) (put (b + 1) pre s A post) Q = (inB j (A 0) ∧ M8 37 ls st (put (b + 1) pre s (ou A 0 (setA (A 0) j v)) post) Q) := w_ist (show decode kb8 36 = .ok (.iastore, 1) from by decide +kernel) rfl put_a0 (by omega) rfl put_w0
theorem m8_37 : M8 37 [.val (.ref r), l1] st H Q = M8 38 [.val (.ref r), l1] (.ref r :: st) H Q := w_x (show decode kb8 37 = .ok (.aload_n 0, 1) from by decide +kernel) rfl
theorem m8_38 : M8 38 ls ((.ref r) :: st) H Q = M8 39 ls ((.ref r) :: (.ref r) :: st) H Q := w_x (show decode kb8 38 = .ok (.dup, 1) from by decide +kernel) rfl
theorem m8_39 : M8 39 ls (.ref (b + 1) :: st) (put (b + 1) pre s A post) Q = M8 42 ls (.int (s 2) :: st) (put (b + 1) pre s A post) Q := w_get (show decode kb8 39 = .ok (.getfield 51, 3) from by decide +kernel) gf_51 put_o rfl
theorem m8_42 : M8 42 ls st H Q = M8 43 ls (.int 1 :: st) H Q := w_con (show decode kb8 42 = .ok (.iconst 1, 1) from by decide +kernel) rfl (by decide)
theorem m8_43 : M8 43 ls (.int y :: .int x :: st) H Q = M8 44 ls (.int (x + y) :: st) H Q := w_x (show decode kb8 43 = .ok (.iadd, 1) from by decide +kernel) rfl
theorem pf8_51 : pfR tables_1 y8.cls y8.name 51 = some ("SuffixAutomat", 13, .int) := by decide +kernel
theorem m8_44 : M8 44 ls (.int v :: .ref (b + 1) :: st) (put (b + 1) pre s A post) Q = M8 47 ls st (put (b + 1) pre (ou s 2 v) A post) Q := w_put (show decode kb8 44 = .ok (.putfield 51, 3) from by decide +kernel) pf8_51 put_o (Nat.succ_le_succ (Nat.zero_le _)) (by show 13 < 20; omega) rfl put_s2
theorem m8_47 : M8 47 [.val (.ref r), l1] st H Q = M8 48 [.val (.ref r), l1] (.ref r :: st) H Q := w_x (show decode kb8 47 = .ok (.aload_n 0, 1) from by decide +kernel) rfl
theorem m8_48 : M8 48 [l0, .val (.int v)] st H Q = M8 49 [l0, .val (.int v)] (.int v :: st) H Q := w_x (show decode kb8 48 = .ok (.iload_n 1, 1) from by decide +kernel) rfl
theorem cr8_63 : vR tables_1 dn y8 63 = some (true, y9, prog_1_method_20_code, 5, none, 1, 0) := pR_of (cR_of (by decide +kernel) rc_9 dn_9 dn_8 (sig := ⟨[.int], none⟩) (by decide +kernel) (by decide +kernel) rfl rfl) (by decide +kernel) (by decide +kernel)
theorem m8_49 (a0 : Int32) : M8 49 ls [.int a0, .ref (b + 1)] (put (b + 1) pre s A post) Q = M9 0 [.val (.ref (b + 1)), .val (.int a0), .unset, .unset, .unset] [] (put (b + 1) pre s A post) (fun v H1 => M8 52 ls (v.toList ++ []) H1 Q) := w_virt (as := [.int a0]) (rest := []) (a := (b + 1)) (show decode kb8 49 = .ok (.invokevirtual 63, 3) from by decide +kernel) cr8_63 put_o rfl rfl (Nat.le_of_ble_eq_true rfl) (by show 2 ≤ 5; omega) rfl
theorem m8_52 : M8 52 ls st H Q = M8 53 ls (.int 1 :: st) H Q := w_con (show decode kb8 52 = .ok (.iconst 1, 1) from by decide +kernel) rfl (by decide)
theorem m8_53 : M8 53 ls (.int z :: st) H Q = Q (some (.int (nar .boolean z))) H := w_iretN (show decode kb8 53 = .ok (.ireturn, 1) from by decide +kernel) rfl (by simp)
theorem m9_0 : M9 0 [.val (.ref r), l1, l2, l3, l4] st H Q = M9 1 [.val (.ref r), l1, l2, l3, l4] (.ref r :: st) H Q := w_x (show decode kb9 0 = .ok (.aload_n 0, 1) from by decide +kernel) rfl
theorem m9_1 : M9 1 ls (.ref (b + 1) :: st) (put (b + 1) pre s A post) Q = M9 4 ls (.int (s 5) :: st) (put (b + 1) pre s A post) Q := w_get (show decode kb9 1 = .ok (.getfield 77, 3) from by decide +kernel) gf_77 put_o rfl
theorem m9_4 : M9 4 ls st H Q = M9 5 ls (.int 2 :: st) H Q := w_con (show decode kb9 4 = .ok (.iconst 2, 1) from by decide +kernel) rfl (by decide)
theorem m9_5 : M9 5 ls (.int y :: .int x :: st) H Q = M9 6 ls (.int (x + y) :: st) H Q := w_x (show decode kb9 5 = .ok (.iadd, 1) from by decide +kernel) rfl
theorem m9_6 : M9 6 ls st H Q = M9 9 ls (.int 128 :: st) H Q := w_con (show decode kb9 6 = .ok (.sipush 128, 3) from by decide +kernel) rfl (by decide)
theorem m9_9 : M9 9 ls (.int y :: .int x :: st) H Q = if y < x then M9 22 ls st H Q else M9 12 ls st H Q := w_icmp (show decode kb9 9 = .ok (.if_icmp .gt 13, 3) from by decide +kernel) (i_gt x y) rfl
theorem m9_12 : M9 12 [l0, .val (.int v), l2, l3, l4] st H Q = M9 13 [l0, .val (.int v), l2, l3, l4] (.int v :: st) H Q := w_x (show decode kb9 12 = .ok (.iload_n 1, 1) from by decide +kernel) rfl
theorem m9_13 : M9 13 ls (.int x :: st) H Q = if x < 0 then M9 22 ls st H Q else M9 16 ls st H Q := w_if (show decode kb9 13 = .ok (.ifCond .lt 9, 3) from by decide +kernel) (z_lt x) rfl
theorem m9_16 : M9 16 [l0, .val (.int v), l2, l3, l4] st H Q = M9 17 [l0, .val (.int v), l2, l3, l4] (.int v :: st) H Q := w_x (show decode kb9 16 = .ok (.iload_n 1, 1) from by decide +kernel) rfl
theorem m9_17 : M9 17 ls st H Q = M9 19 ls (.int 8 :: st) H Q := w_con (show decode kb9 17 = .ok (.bipush 8, 2) from by decide +kernel) rfl (by decide)
theorem m9_19 : M9 19 ls (.int y :: .int x :: st) H Q = if x < y then M9 23 ls st H Q else M9 22 ls st H Q := w_icmp (show decode kb9 19 = .ok (.if_icmp .lt 4, 3) from by decide +kernel) (i_lt x y) rfl
theorem m9_22 : M9 22 ls [] H Q = Q none H := w_vret (show decode kb9 22 = .ok (.return_, 1) from by decide +kernel) rfl
theorem m9_23 : M9 23 [.val (.ref r), l1, l2, l3, l4] st H Q = M9 24 [.val (.ref r), l1, l2, l3, l4] (.ref r :: st) H Q := w_x (show decode kb9 23 = .ok (.aload_n 0, 1) from by decide +kernel) rfl
theorem m9_24 : M9 24 ls (.ref (b + 1) :: st) (put (b + 1) pre s A post) Q = M9 27 ls (.int (s 5) :: st) (put (b + 1) pre s A post) Q := w_get (show decode kb9 24 = .ok (.getfield 77, 3) from by decide +kernel) gf_77 put_o rfl
theorem m9_27u : M9 27 [l0, l1, .unset, l3, l4] ((.int v) :: st) H Q = M9 28 [l0, l1, .val (.int v), l3, l4] st H Q := w_st (i := 2) (p := isI) (show decode kb9 27 = .ok (.istore_n 2, 1) from by decide +kernel) rfl rfl rfl rfl rfl rfl
theorem m9_28 : M9 28 [.val (.ref r), l1, l2, l3, l4] st H Q = M9 29 [.val (.ref r), l1, l2, l3, l4] (.ref r :: st) H Q := w_x (show decode kb9 28 = .ok (.aload_n 0, 1) from by decide +kernel) rfl
theorem m9_29 : M9 29 ls ((.ref r) :: st) H Q = M9 30 ls ((.ref r) :: (.ref r) :: st) H Q := w_x (show decode kb9 29 = .ok (.dup, 1) from by decide +kernel) rfl
theorem m9_30 : M9 30 ls (.ref (b + 1) :: st) (put (b + 1) pre s A post) Q = M9 33 ls (.int (s 5) :: st) (put (b + 1) pre s A post) Q := w_get (show decode kb9 30 = .ok (.getfield 77, 3) from by decide +kernel) gf_77 put_o rfl
theorem m9_33 : M9 33 ls st H Q = M9 34 ls (.int 1 :: st) H Q := w_con (show decode kb9 33 = .ok (.iconst 1, 1) from by decide +kernel) rfl (by decide)
theorem m9_34 : M9 34 ls (.int y :: .int x :: st) H Q = M9 35 ls (.int (x + y) :: st) H Q := w_x (show decode kb9 34 = .ok (.iadd, 1) from by decide +kernel) rfl
theorem pf9_77 : pfR tables_1 y9.cls y9.name 77 = some ("SuffixAutomat", 16, .int) := by decide +kernel
theorem m9_35 : M9 35 ls (.int v :: .ref (b + 1) :: st) (put (b + 1) pre s A post) Q = M9 38 ls st (put (b + 1) pre (ou s 5 v) A post) Q := w_put (show decode kb9 35 = .ok (.putfield 77, 3) from by decide +kernel) pf9_77 put_o (Nat.succ_le_succ (Nat.zero_le _)) (by show 16 < 20; omega) rfl put_s5
theorem m9_38 : M9 38 [.val (.ref r), l1, l2, l3, l4] st H Q = M9 39 [.val (.ref r), l1, l2, l3, l4] (.ref r :: st) H Q := w_x (show decode kb9 38 = .ok (.aload_n 0, 1) from by decide +kernel) rfl
theorem m9_39 : M9 39 [l0, l1, .val (.int v), l3, l4] st H Q = M9 40 [l0, l1, .val (.int v), l3, l4] (.int v :: st) H Q := w_x (show decode kb9 39 = .ok (.iload_n 2, 1) from by decide +kernel) rfl
theorem cr9_96 : vR tables_1 dn y9 96 = some (true, y2, prog_1_method_19_code, 4, none, 1, 21) := pR_of (cR_of (by decide +kernel) rc_2 dn_2 dn_9 (sig := ⟨[.int], none⟩) (by decide +kernel) (by decide +kernel) rfl rfl) (by decide +kernel) (by decide +kernel)
theorem m9_40 (a0 : Int32) : M9 40 ls [.int a0, .ref (b + 1)] (put (b + 1) pre s A post) Q = M2 0 [.val (.ref (b + 1)), .val (.int a0), .unset, .unset] [] (put (b + 1) pre s A post) (fun v H1 => M9 43 ls (v.toList ++ []) H1 Q) := w_virt (as := [.int a0]) (rest := []) (a := (b + 1)) (show decode kb9 40 = .ok (.invokevirtual 96, 3) from by decide +kernel) cr9_96 put_o rfl rfl (Nat.le_of_ble_eq_true rfl) (by show 2 ≤ 4; omega) rfl
theorem m9_43 : M9 43 [.val (.ref r), l1, l2, l3, l4] st H Q = M9 44 [.val (.ref r), l1, l2, l3, l4] (.ref r :: st) H Q := w_x (show decode kb9 43 = .ok (.aload_n 0, 1) from by decide +kernel) rfl
theorem m9_44 : M9 44 ls (.ref (b + 1) :: st) (put (b + 1) pre s A post) Q = M9 47 ls (.ref ((b + 1) + 6) :: st) (put (b + 1) pre s A post) Q := w_get (show decode kb9 44 = .ok (.getfield 25, 3) from by decide +kernel) gf_25 put_o rfl
theorem m9_47 : M9 47 [l0, l1, .val (.int v), l3, l4] st H Q = M9 48 [l0, l1, .val (.int v), l3, l4] (.int v :: st) H Q := w_x (show decode kb9 47 = .ok (.iload_n 2, 1) from by decide +kernel) rfl
theorem m9_48 : M9 48 [.val (.ref r), l1, l2, l3, l4] st H Q = M9 49 [.val (.ref r), l1, l2, l3, l4] (.ref r :: st) H Q := w_x (show decode kb9 48 = .ok (.aload_n 0, 1) from by decide +kernel) rfl
theorem m9_49 : M9 49 ls (.ref (b + 1) :: st) (put (b + 1) pre s A post) Q = M9 52 ls (.ref ((b + 1) + 6) :: st) (put (b + 1) pre s A post) Q := w_get (show decode kb9 49 = .ok (.getfield 25, 3) from by decide +kernel) gf_25 put_o rfl
theorem m9_52 : M9 52 [.val (.ref r), l1, l2, l3, l4] st H Q = M9 53 [.val (.ref r), l1, l2, l3, l4] (.ref r :: st) H Q := w_x (show decode kb9 52 = .ok (.aload_n 0, 1) from by decide +kernel) rfl
theorem m9_53 : M9 53 ls (.ref (b + 1) :: st) (put (b + 1) pre s A post) Q = M9 56 ls (.int (s 6) :: st) (put (b + 1) pre s A post) Q := w_get (show decode kb9 53 = .ok (.getfield 89, 3) from by decide +kernel) gf_89 put_o rfl
theorem m9_56  : M9 56 ls (.int j :: .ref ((b + 1) + 6) :: st) (put (b + 1) pre s A post) Q = (inB j (A 5) ∧ M9 57 ls (.int (getA (A 5) j) :: st) (put (b + 1) pre s A post) Q) := w_ild (show decode kb9 56 = .ok (.iaload, 1) from by decide +kernel) rfl put_a5
theorem m9_57 : M9 57 ls st H Q = M9 58 ls (.int 1 :: st) H Q := w_con (show decode kb9 57 = .ok (.iconst 1, 1) from by decide +kernel) rfl (by decide)
theorem m9_58 : M9 58 ls (.int y :: .int x :: st) H Q = M9 59 ls (.int (x + y) :: st) H Q := w_x (show decode kb9 58 = .ok (.iadd, 1) from by decide +kernel) rfl
theorem m9_59  : M9 59 ls (.int v :: .int j :: .ref ((b + 1) + 6) :: st) (put (b + 1) pre s A post) Q = (inB j (A 5) ∧ M9 60 ls st (put (b + 1) pre s (ou A 5 (setA (A 5) j v)) post) Q) := w_ist (show decode kb9 59 = .ok (.iastore, 1) from by decide +kernel) rfl put_a5 (by omega) rfl put_w5
theorem m9_60 : M9 60 [.val (.ref r), l1, l2, l3, l4] st H Q = M9 61 [.val (.ref r), l1, l2, l3, l4] (.ref r :: st) H Q := w_x (show decode kb9 60 = .ok (.aload_n 0, 1) from by decide +kernel) rfl
theorem m9_61 : M9 61 ls (.ref (b + 1) :: st) (put (b + 1) pre s A post) Q = M9 64 ls (.ref ((b + 1) + 7) :: st) (put (b + 1) pre s A post) Q := w_get (show decode kb9 61 = .ok (.getfield 28, 3) from by decide +kernel) gf_28 put_o rfl
theorem m9_64 : M9 64 [l0, l1, .val (.int v), l3, l4] st H Q = M9 65 [l0, l1, .val (.int v), l3, l4] (.int v :: st) H Q := w_x (show decode kb9 64 = .ok (.iload_n 2, 1) from by decide +kernel) rfl
theorem m9_65 : M9 65 [.val (.ref r), l1, l2, l3, l4] st H Q = M9 66 [.val (.ref r), l1, l2, l3, l4] (.ref r :: st) H Q := w_x (show decode kb9 65 = .ok (.aload_n 0, 1) from by decide +kernel) rfl
theorem m9_66 : M9 66 ls (.ref (b + 1) :: st) (put (b + 1) pre s A post) Q = M9 69 ls (.ref ((b + 1) + 6) :: st) (put (b + 1) pre s A post) Q := w_get (show decode kb9 66 = .ok (.getfield 25, 3) from by decide +kernel) gf_25 put_o rfl
theorem m9_69 : M9 69 [l0, l1, .val (.int v), l3, l4] st H Q = M9 70 [l0, l1, .val (.int v), l3, l4] (.int v :: st) H Q := w_x (show decode kb9 69 = .ok (.iload_n 2, 1) from by decide +kernel) rfl
theorem m9_70  : M9 70 ls (.int j :: .ref ((b + 1) + 6) :: st) (put (b + 1) pre s A post) Q = (inB j (A 5) ∧ M9 71 ls (.int (getA (A 5) j) :: st) (put (b + 1) pre s A post) Q) := w_ild (show decode kb9 70 = .ok (.iaload, 1) from by decide +kernel) rfl put_a5
theorem m9_71 : M9 71 ls st H Q = M9 72 ls (.int 1 :: st) H Q := w_con (show decode kb9 71 = .ok (.iconst 1, 1) from by decide +kernel) rfl (by decide)
theorem m9_72 : M9 72 ls (.int y :: .int x :: st) H Q = M9 73 ls (.int (x - y) :: st) H Q := w_x (show decode kb9 72 = .ok (.isub, 1) from by decide +kernel) rfl
theorem m9_73  : M9 73 ls (.int v :: .int j :: .ref ((b + 1) + 7) :: st) (put (b + 1) pre s A post) Q = (inB j (A 6) ∧ M9 74 ls st (put (b + 1) pre s (ou A 6 (setA (A 6) j v)) post) Q) := w_ist (show decode kb9 73 = .ok (.iastore, 1) from by decide +kernel) rfl put_a6 (by omega) rfl put_w6
theorem m9_74 : M9 74 [.val (.ref r), l1, l2, l3, l4] st H Q = M9 75 [.val (.ref r), l1, l2, l3, l4] (.ref r :: st) H Q := w_x (show decode kb9 74 = .ok (.aload_n 0, 1) from by decide +kernel) rfl
theorem m9_75 : M9 75 [.val (.ref r), l1, l2, l3, l4] st H Q = M9 76 [.val (.ref r), l1, l2, l3, l4] (.ref r :: st) H Q := w_x (show decode kb9 75 = .ok (.aload_n 0, 1) from by decide +kernel) rfl
theorem m9_76 : M9 76 ls (.ref (b + 1) :: st) (put (b + 1) pre s A post) Q = M9 79 ls (.int (s 6) :: st) (put (b + 1) pre s A post) Q := w_get (show decode kb9 76 = .ok (.getfield 89, 3) from by decide +kernel) gf_89 put_o rfl
theorem m9_79 : M9 79 [l0, .val (.int v), l2, l3, l4] st H Q = M9 80 [l0, .val (.int v), l2, l3, l4] (.int v :: st) H Q := w_x (show decode kb9 79 = .ok (.iload_n 1, 1) from by decide +kernel) rfl
theorem m9_80 : M9 80 [l0, l1, .val (.int v), l3, l4] st H Q = M9 81 [l0, l1, .val (.int v), l3, l4] (.int v :: st) H Q := w_x (show decode kb9 80 = .ok (.iload_n 2, 1) from by decide +kernel) rfl
theorem cr9_99 : vR tables_1 dn y9 99 = some (true, y10, prog_1_method_21_code, 6, (some .int), 3, 19) := pR_of (cR_of (by decide +kernel) rc_10 dn_10 dn_9 (sig := ⟨[.int, .int, .int], some .int⟩) (by decide +kernel) (by decide +kernel) rfl rfl) (by decide +kernel) (by decide +kernel)
theorem m9_81 (a0 : Int32) (a1 : Int32) (a2 : Int32) : M9 81 ls [.int a2, .int a1, .int a0, .ref (b + 1)] (put (b + 1) pre s A post) Q = M10 0 [.val (.ref (b + 1)), .val (.int a0), .val (.int a1), .val (.int a2), .unset, .unset] [] (put (b + 1) pre s A post) (fun v H1 => M9 84 ls (v.toList ++ []) H1 Q) := w_virt (as := [.int a2, .int a1, .int a0]) (rest := []) (a := (b + 1)) (show decode kb9 81 = .ok (.invokevirtual 99, 3) from by decide +kernel) cr9_99 put_o rfl rfl (Nat.le_of_ble_eq_true rfl) (by show 4 ≤ 6; omega) rfl
theorem m9_84u : M9 84 [l0, l1, l2, .unset, l4] ((.int v) :: st) H Q = M9 85 [l0, l1, l2, .val (.int v), l4] st H Q := w_st (i := 3) (p := isI) (show decode kb9 84 = .ok (.istore_n 3, 1) from by decide +kernel) rfl rfl rfl rfl rfl rfl
theorem m9_85 : M9 85 [l0, l1, l2, .val (.int v), l4] st H Q = M9 86 [l0, l1, l2, .val (.int v), l4] (.int v :: st) H Q := w_x (show decode kb9 85 = .ok (.iload_n 3, 1) from by decide +kernel) rfl
theorem m9_86 : M9 86 ls (.int x :: st) H Q = if x < 0 then M9 89 ls st H Q else M9 99 ls st H Q := w_ifN (show decode kb9 86 = .ok (.ifCond .ge 13, 3) from by decide +kernel) (z_ge x) rfl
theorem m9_89 : M9 89 [.val (.ref r), l1, l2, l3, l4] st H Q = M9 90 [.val (.ref r), l1, l2, l3, l4] (.ref r :: st) H Q := w_x (show decode kb9 89 = .ok (.aload_n 0, 1) from by decide +kernel) rfl
theorem m9_90 : M9 90 ls (.ref (b + 1) :: st) (put (b + 1) pre s A post) Q = M9 93 ls (.ref ((b + 1) + 5) :: st) (put (b + 1) pre s A post) Q := w_get (show decode kb9 90 = .ok (.getfield 22, 3) from by decide +kernel) gf_22 put_o rfl
theorem m9_93 : M9 93 [l0, l1, .val (.int v), l3, l4] st H Q = M9 94 [l0, l1, .val (.int v), l3, l4] (.int v :: st) H Q := w_x (show decode kb9 93 = .ok (.iload_n 2, 1) from by decide +kernel) rfl
theorem m9_94 : M9 94 ls st H Q = M9 95 ls (.int 0 :: st) H Q := w_con (show decode kb9 94 = .ok (.iconst 0, 1) from by decide +kernel) rfl (by decide)
theorem m9_95  : M9 95 ls (.int v :: .int j :: .ref ((b + 1) + 5) :: st) (put (b + 1) pre s A post) Q = (inB j (A 4) ∧ M9 96 ls st (put (b + 1) pre s (ou A 4 (setA (A 4) j v)) post) Q) := w_ist (show decode kb9 95 = .ok (.iastore, 1) from by decide +kernel) rfl put_a4 (by omega) rfl put_w4
theorem m9_96 : M9 96 ls st H Q = M9 150 ls st H Q := w_x (show decode kb9 96 = .ok (.goto 54, 3) from by decide +kernel) rfl
theorem m9_99 : M9 99 [.val (.ref r), l1, l2, l3, l4] st H Q = M9 100 [.val (.ref r), l1, l2, l3, l4] (.ref r :: st) H Q := w_x (show decode kb9 99 = .ok (.aload_n 0, 1) from by decide +kernel) rfl
theorem m9_100 : M9 100 ls (.ref (b + 1) :: st) (put (b + 1) pre s A post) Q = M9 103 ls (.ref ((b + 1) + 4) :: st) (put (b + 1) pre s A post) Q := w_get (show decode kb9 100 = .ok (.getfield 19, 3) from by decide +kernel) gf_19 put_o rfl
theorem m9_103 : M9 103 [l0, l1, l2, .val (.int v), l4] st H Q = M9 104 [l0, l1, l2, .val (.int v), l4] (.int v :: st) H Q := w_x (show decode kb9 103 = .ok (.iload_n 3, 1) from by decide +kernel) rfl
theorem m9_104 : M9 104 ls st H Q = M9 106 ls (.int 8 :: st) H Q := w_con (show decode kb9 104 = .ok (.bipush 8, 2) from by decide +kernel) rfl (by decide)
theorem m9_106 : M9 106 ls (.int y :: .int x :: st) H Q = M9 107 ls (.int (x * y) :: st) H Q := w_x (show decode kb9 106 = .ok (.imul, 1) from by decide +kernel) rfl
theorem m9_107 : M9 107 [l0, .val (.int v), l2, l3, l4] st H Q = M9 108 [l0, .val (.int v), l2, l3, l4] (.int v :: st) H Q := w_x (show decode kb9 107 = .ok (.iload_n 1, 1) from by decide +kernel) rfl
theorem m9_108 : M9 108 ls (.int y :: .int x :: st) H Q = M9 109 ls (.int (x + y) :: st) H Q := w_x (show decode kb9 108 = .ok (.iadd, 1) from by decide +kernel) rfl
theorem m9_109  : M9 109 ls (.int j :: .ref ((b + 1) + 4) :: st) (put (b + 1) pre s A post) Q = (inB j (A 3) ∧ M9 110 ls (.int (getA (A 3) j) :: st) (put (b + 1) pre s A post) Q) := w_ild (show decode kb9 109 = .ok (.iaload, 1) from by decide +kernel) rfl put_a3
theorem m9_110u : M9 110 [l0, l1, l2, l3, .unset] ((.int v) :: st) H Q = M9 112 [l0, l1, l2, l3, .val (.int v)] st H Q := w_st (i := 4) (p := isI) (show decode kb9 110 = .ok (.istore 4, 2) from by decide +kernel) rfl rfl rfl rfl rfl rfl
theorem m9_112 : M9 112 [.val (.ref r), l1, l2, l3, l4] st H Q = M9 113 [.val (.ref r), l1, l2, l3, l4] (.ref r :: st) H Q := w_x (show decode kb9 112 = .ok (.aload_n 0, 1) from by decide +kernel) rfl
theorem m9_113 : M9 113 ls (.ref (b + 1) :: st) (put (b + 1) pre s A post) Q = M9 116 ls (.ref ((b + 1) + 6) :: st) (put (b + 1) pre s A post) Q := w_get (show decode kb9 113 = .ok (.getfield 25, 3) from by decide +kernel) gf_25 put_o rfl
theorem m9_116 : M9 116 [l0, l1, l2, .val (.int v), l4] st H Q = M9 117 [l0, l1, l2, .val (.int v), l4] (.int v :: st) H Q := w_x (show decode kb9 116 = .ok (.iload_n 3, 1) from by decide +kernel) rfl
theorem m9_117  : M9 117 ls (.int j :: .ref ((b + 1) + 6) :: st) (put (b + 1) pre s A post) Q = (inB j (A 5) ∧ M9 118 ls (.int (getA (A 5) j) :: st) (put (b + 1) pre s A post) Q) := w_ild (show decode kb9 117 = .ok (.iaload, 1) from by decide +kernel) rfl put_a5
theorem m9_118 : M9 118 ls st H Q = M9 119 ls (.int 1 :: st) H Q := w_con (show decode kb9 118 = .ok (.iconst 1, 1) from by decide +kernel) rfl (by decide)
theorem m9_119 : M9 119 ls (.int y :: .int x :: st) H Q = M9 120 ls (.int (x + y) :: st) H Q := w_x (show decode kb9 119 = .ok (.iadd, 1) from by decide +kernel) rfl
theorem m9_120 : M9 120 [.val (.ref r), l1, l2, l3, l4] st H Q = M9 121 [.val (.ref r), l1, l2, l3, l4] (.ref r :: st) H Q := w_x (show decode kb9 120 = .ok (.aload_n 0, 1) from by decide +kernel) rfl
theorem m9_121 : M9 121 ls (.ref (b + 1) :: st) (put (b + 1) pre s A post) Q = M9 124 ls (.ref ((b + 1) + 6) :: st) (put (b + 1) pre s A post) Q := w_get (show decode kb9 121 = .ok (.getfield 25, 3) from by decide +kernel) gf_25 put_o rfl
theorem m9_124 : M9 124 [l0, l1, l2, l3, .val (.int v)] st H Q = M9 126 [l0, l1, l2, l3, .val (.int v)] (.int v :: st) H Q := w_x (show decode kb9 124 = .ok (.iload 4, 2) from by decide +kernel) rfl
theorem m9_126  : M9 126 ls (.int j :: .ref ((b + 1) + 6) :: st) (put (b + 1) pre s A post) Q = (inB j (A 5) ∧ M9 127 ls (.int (getA (A 5) j) :: st) (put (b + 1) pre s A post) Q) := w_ild (show decode kb9 126 = .ok (.iaload, 1) from by decide +kernel) rfl put_a5
theorem m9_127 : M9 127 ls (.int y :: .int x :: st) H Q = if x = y then M9 130 ls st H Q else M9 141 ls st H Q := w_icmpN (show decode kb9 127 = .ok (.if_icmp .ne 14, 3) from by decide +kernel) (i_ne x y) rfl
theorem m9_130 : M9 130 [.val (.ref r), l1, l2, l3, l4] st H Q = M9 131 [.val (.ref r), l1, l2, l3, l4] (.ref r :: st) H Q := w_x (show decode kb9 130 = .ok (.aload_n 0, 1) from by decide +kernel) rfl
theorem m9_131 : M9 131 ls (.ref (b + 1) :: st) (put (b + 1) pre s A post) Q = M9 134 ls (.ref ((b + 1) + 5) :: st) (put (b + 1) pre s A post) Q := w_get (show decode kb9 131 = .ok (.getfield 22, 3) from by decide +kernel) gf_22 put_o rfl
theorem m9_134 : M9 134 [l0, l1, .val (.int v), l3, l4] st H Q = M9 135 [l0, l1, .val (.int v), l3, l4] (.int v :: st) H Q := w_x (show decode kb9 134 = .ok (.iload_n 2, 1) from by decide +kernel) rfl
theorem m9_135 : M9 135 [l0, l1, l2, l3, .val (.int v)] st H Q = M9 137 [l0, l1, l2, l3, .val (.int v)] (.int v :: st) H Q := w_x (show decode kb9 135 = .ok (.iload 4, 2) from by decide +kernel) rfl
theorem m9_137  : M9 137 ls (.int v :: .int j :: .ref ((b + 1) + 5) :: st) (put (b + 1) pre s A post) Q = (inB j (A 4) ∧ M9 138 ls st (put (b + 1) pre s (ou A 4 (setA (A 4) j v)) post) Q) := w_ist (show decode kb9 137 = .ok (.iastore, 1) from by decide +kernel) rfl put_a4 (by omega) rfl put_w4
theorem m9_138 : M9 138 ls st H Q = M9 150 ls st H Q := w_x (show decode kb9 138 = .ok (.goto 12, 3) from by decide +kernel) rfl
theorem m9_141 : M9 141 [.val (.ref r), l1, l2, l3, l4] st H Q = M9 142 [.val (.ref r), l1, l2, l3, l4] (.ref r :: st) H Q := w_x (show decode kb9 141 = .ok (.aload_n 0, 1) from by decide +kernel) rfl
theorem m9_142 : M9 142 [l0, l1, l2, .val (.int v), l4] st H Q = M9 143 [l0, l1, l2, .val (.int v), l4] (.int v :: st) H Q := w_x (show decode kb9 142 = .ok (.iload_n 3, 1) from by decide +kernel) rfl
theorem m9_143 : M9 143 [l0, .val (.int v), l2, l3, l4] st H Q = M9 144 [l0, .val (.int v), l2, l3, l4] (.int v :: st) H Q := w_x (show decode kb9 143 = .ok (.iload_n 1, 1) from by decide +kernel) rfl
theorem m9_144 : M9 144 [l0, l1, l2, l3, .val (.int v)] st H Q = M9 146 [l0, l1, l2, l3, .val (.int v)] (.int v :: st) H Q := w_x (show decode kb9 144 = .ok (.iload 4, 2) from by decide +kernel) rfl
theorem m9_146 : M9 146 [l0, l1, .val (.int v), l3, l4] st H Q = M9 147 [l0, l1, .val (.int v), l3, l4] (.int v :: st) H Q := w_x (show decode kb9 146 = .ok (.iload_n 2, 1) from by decide +kernel) rfl
theorem cr9_103 : vR tables_1 dn y9 103 = some (true, y19, prog_1_method_22_code, 10, none, 4, 0) := pR_of (cR_of (by decide +kernel) rc_19 dn_19 dn_9 (sig := ⟨[.int, .int, .int, .int], none⟩) (by decide +kernel) (by decide +kernel) rfl rfl) (by decide +kernel) (by decide +kernel)
theorem m9_147 (a0 : Int32) (a1 : Int32) (a2 : Int32) (a3 : Int32) : M9 147 ls [.int a3, .int a2, .int a1, .int a0, .ref (b + 1)] (put (b + 1) pre s A post) Q = M19 0 [.val (.ref (b + 1)), .val (.int a0), .val (.int a1), .val (.int a2), .val (.int a3), .unset, .unset, .unset, .unset, .unset] [] (put (b + 1) pre s A post) (fun v H1 => M9 150 ls (v.toList ++ []) H1 Q) := w_virt (as := [.int a3, .int a2, .int a1, .int a0]) (rest := []) (a := (b + 1)) (show decode kb9 147 = .ok (.invokevirtual 103, 3) from by decide +kernel) cr9_103 put_o rfl rfl (Nat.le_of_ble_eq_true rfl) (by show 5 ≤ 10; omega) rfl
theorem m9_150 : M9 150 [.val (.ref r), l1, l2, l3, l4] st H Q = M9 151 [.val (.ref r), l1, l2, l3, l4] (.ref r :: st) H Q := w_x (show decode kb9 150 = .ok (.aload_n 0, 1) from by decide +kernel) rfl
theorem m9_151 : M9 151 [l0, l1, .val (.int v), l3, l4] st H Q = M9 152 [l0, l1, .val (.int v), l3, l4] (.int v :: st) H Q := w_x (show decode kb9 151 = .ok (.iload_n 2, 1) from by decide +kernel) rfl
theorem pf9_89 : pfR tables_1 y9.cls y9.name 89 = some ("SuffixAutomat", 17, .int) := by decide +kernel
theorem m9_152 : M9 152 ls (.int v :: .ref (b + 1) :: st) (put (b + 1) pre s A post) Q = M9 155 ls st (put (b + 1) pre (ou s 6 v) A post) Q := w_put (show decode kb9 152 = .ok (.putfield 89, 3) from by decide +kernel) pf9_89 put_o (Nat.succ_le_succ (Nat.zero_le _)) (by show 17 < 20; omega) rfl put_s6
theorem m9_155 : M9 155 [.val (.ref r), l1, l2, l3, l4] st H Q = M9 156 [.val (.ref r), l1, l2, l3, l4] (.ref r :: st) H Q := w_x (show decode kb9 155 = .ok (.aload_n 0, 1) from by decide +kernel) rfl
theorem m9_156 : M9 156 ls ((.ref r) :: st) H Q = M9 157 ls ((.ref r) :: (.ref r) :: st) H Q := w_x (show decode kb9 156 = .ok (.dup, 1) from by decide +kernel) rfl
theorem m9_157 : M9 157 ls (.ref (b + 1) :: st) (put (b + 1) pre s A post) Q = M9 160 ls (.int (s 7) :: st) (put (b + 1) pre s A post) Q := w_get (show decode kb9 157 = .ok (.getfield 74, 3) from by decide +kernel) gf_74 put_o rfl
theorem m9_160 : M9 160 [.val (.ref r), l1, l2, l3, l4] st H Q = M9 161 [.val (.ref r), l1, l2, l3, l4] (.ref r :: st) H Q := w_x (show decode kb9 160 = .ok (.aload_n 0, 1) from by decide +kernel) rfl
theorem m9_161 : M9 161 ls (.ref (b + 1) :: st) (put (b + 1) pre s A post) Q = M9 164 ls (.ref ((b + 1) + 6) :: st) (put (b + 1) pre s A post) Q := w_get (show decode kb9 161 = .ok (.getfield 25, 3) from by decide +kernel) gf_25 put_o rfl
theorem m9_164 : M9 164 [l0, l1, .val (.int v), l3, l4] st H Q = M9 165 [l0, l1, .val (.int v), l3, l4] (.int v :: st) H Q := w_x (show decode kb9 164 = .ok (.iload_n 2, 1) from by decide +kernel) rfl
theorem m9_165  : M9 165 ls (.int j :: .ref ((b + 1) + 6) :: st) (put (b + 1) pre s A post) Q = (inB j (A 5) ∧ M9 166 ls (.int (getA (A 5) j) :: st) (put (b + 1) pre s A post) Q) := w_ild (show decode kb9 165 = .ok (.iaload, 1) from by decide +kernel) rfl put_a5
theorem m9_166 : M9 166 [.val (.ref r), l1, l2, l3, l4] st H Q = M9 167 [.val (.ref r), l1, l2, l3, l4] (.ref r :: st) H Q := w_x (show decode kb9 166 = .ok (.aload_n 0, 1) from by decide +kernel) rfl
theorem m9_167 : M9 167 ls (.ref (b + 1) :: st) (put (b + 1) pre s A post) Q = M9 170 ls (.ref ((b + 1) + 6) :: st) (put (b + 1) pre s A post) Q := w_get (show decode kb9 167 = .ok (.getfield 25, 3) from by decide +kernel) gf_25 put_o rfl
theorem m9_170 : M9 170 [.val (.ref r), l1, l2, l3, l4] st H Q = M9 171 [.val (.ref r), l1, l2, l3, l4] (.ref r :: st) H Q := w_x (show decode kb9 170 = .ok (.aload_n 0, 1) from by decide +kernel) rfl
theorem m9_171 : M9 171 ls (.ref (b + 1) :: st) (put (b + 1) pre s A post) Q = M9 174 ls (.ref ((b + 1) + 5) :: st) (put (b + 1) pre s A post) Q := w_get (show decode kb9 171 = .ok (.getfield 22, 3) from by decide +kernel) gf_22 put_o rfl
theorem m9_174 : M9 174 [l0, l1, .val (.int v), l3, l4] st H Q = M9 175 [l0, l1, .val (.int v), l3, l4] (.int v :: st) H Q := w_x (show decode kb9 174 = .ok (.iload_n 2, 1) from by decide +kernel) rfl
theorem m9_175  : M9 175 ls (.int j :: .ref ((b + 1) + 5) :: st) (put (b + 1) pre s A post) Q = (inB j (A 4) ∧ M9 176 ls (.int (getA (A 4) j) :: st) (put (b + 1) pre s A post) Q) := w_ild (show decode kb9 175 = .ok (.iaload, 1) from by decide +kernel) rfl put_a4
theorem m9_176  : M9 176 ls (.int j :: .ref ((b + 1) + 6) :: st) (put (b + 1) pre s A post) Q = (inB j (A 5) ∧ M9 177 ls (.int (getA (A 5) j) :: st) (put (b + 1) pre s A post) Q) := w_ild (show decode kb9 176 = .ok (.iaload, 1) from by decide +kernel) rfl put_a5
theorem m9_177 : M9 177 ls (.int y :: .int x :: st) H Q = M9 178 ls (.int (x - y) :: st) H Q := w_x (show decode kb9 177 = .ok (.isub, 1) from by decide +kernel) rfl
theorem m9_178 : M9 178 ls (.int y :: .int x :: st) H Q = M9 179 ls (.int (x + y) :: st) H Q := w_x (show decode kb9 178 = .ok (.iadd, 1) from by decide +kernel) rfl
theorem pf9_74 : pfR tables_1 y9.cls y9.name 74 = some ("SuffixAutomat", 18, .int) := by decide +kernel
theorem m9_179 : M9 179 ls (.int v :: .ref (b + 1) :: st) (put (b + 1) pre s A post) Q = M9 182 ls st (put (b + 1) pre (ou s 7 v) A post) Q := w_put (show decode kb9 179 = .ok (.putfield 74, 3) from by decide +kernel) pf9_74 put_o (Nat.succ_le_succ (Nat.zero_le _)) (by show 18 < 20; omega) rfl put_s7
theorem m9_182 : M9 182 [.val (.ref r), l1, l2, l3, l4] st H Q = M9 183 [.val (.ref r), l1, l2, l3, l4] (.ref r :: st) H Q := w_x (show decode kb9 182 = .ok (.aload_n 0, 1) from by decide +kernel) rfl
theorem m9_183 : M9 183 ls st H Q = M9 184 ls (.int 0 :: st) H Q := w_con (show decode kb9 183 = .ok (.iconst 0, 1) from by decide +kernel) rfl (by decide)
theorem pf9_92 : pfR tables_1 y9.cls y9.name 92 = some ("SuffixAutomat", 19, .boolean) := by decide +kernel
theorem m9_184 : M9 184 ls (.int v :: .ref (b + 1) :: st) (put (b + 1) pre s A post) Q = M9 187 ls st (put (b + 1) pre (ou s 8 (nar .boolean v)) A post) Q := w_put (show decode kb9 184 = .ok (.putfield 92, 3) from by decide +kernel) pf9_92 put_o (Nat.succ_le_succ (Nat.zero_le _)) (by show 19 < 20; omega) rfl put_s8
theorem m9_187 : M9 187 ls [] H Q = Q none H := w_vret (show decode kb9 187 = .ok (.return_, 1) from by decide +kernel) rfl
theorem m10_0 : M10 0 [l0, .val (.int v), l2, l3, l4, l5] st H Q = M10 1 [l0, .val (.int v), l2, l3, l4, l5] (.int v :: st) H Q := w_x (show decode kb10 0 = .ok (.iload_n 1, 1) from by decide +kernel) rfl
theorem m10_1u : M10 1 [l0, l1, l2, l3, .unset, l5] ((.int v) :: st) H Q = M10 3 [l0, l1, l2, l3, .val (.int v), l5] st H Q := w_st (i := 4) (p := isI) (show decode kb10 1 = .ok (.istore 4, 2) from by decide +kernel) rfl rfl rfl rfl rfl rfl
theorem m10_3 : M10 3 ls st H Q = M10 4 ls (.int 0 :: st) H Q := w_con (show decode kb10 3 = .ok (.iconst 0, 1) from by decide +kernel) rfl (by decide)
theorem m10_4u : M10 4 [l0, l1, l2, l3, l4, .unset] ((.int v) :: st) H Q = M10 6 [l0, l1, l2, l3, l4, .val (.int v)] st H Q := w_st (i := 5) (p := isI) (show decode kb10 4 = .ok (.istore 5, 2) from by decide +kernel) rfl rfl rfl rfl rfl rfl
theorem m10_6 : M10 6 [l0, l1, l2, l3, l4, .val (.int v)] st H Q = M10 8 [l0, l1, l2, l3, l4, .val (.int v)] (.int v :: st) H Q := w_x (show decode kb10 6 = .ok (.iload 5, 2) from by decide +kernel) rfl
theorem m10_8 : M10 8 ls st H Q = M10 11 ls (.int 128 :: st) H Q := w_con (show decode kb10 8 = .ok (.sipush 128, 3) from by decide +kernel) rfl (by decide)
theorem m10_11 : M10 11 ls (.int y :: .int x :: st) H Q = if x < y then M10 14 ls st H Q else M10 62 ls st H Q := w_icmpN (show decode kb10 11 = .ok (.if_icmp .ge 51, 3) from by decide +kernel) (i_ge x y) rfl
theorem m10_14 : M10 14 [l0, l1, l2, l3, .val (.int v), l5] st H Q = M10 16 [l0, l1, l2, l3, .val (.int v), l5] (.int v :: st) H Q := w_x (show decode kb10 14 = .ok (.iload 4, 2) from by decide +kernel) rfl
theorem m10_16 : M10 16 ls (.int x :: st) H Q = if x < 0 then M10 62 ls st H Q else M10 19 ls st H Q := w_if (show decode kb10 16 = .ok (.ifCond .lt 46, 3) from by decide +kernel) (z_lt x) rfl
theorem m10_19 : M10 19 [.val (.ref r), l1, l2, l3, l4, l5] st H Q = M10 20 [.val (.ref r), l1, l2, l3, l4, l5] (.ref r :: st) H Q := w_x (show decode kb10 19 = .ok (.aload_n 0, 1) from by decide +kernel) rfl
theorem m10_20 : M10 20 ls (.ref (b + 1) :: st) (put (b + 1) pre s A post) Q = M10 23 ls (.ref ((b + 1) + 4) :: st) (put (b + 1) pre s A post) Q := w_get (show decode kb10 20 = .ok (.getfield 19, 3) from by decide +kernel) gf_19 put_o rfl
theorem m10_23 : M10 23 [l0, l1, l2, l3, .val (.int v), l5] st H Q = M10 25 [l0, l1, l2, l3, .val (.int v), l5] (.int v :: st) H Q := w_x (show decode kb10 23 = .ok (.iload 4, 2) from by decide +kernel) rfl
theorem m10_25 : M10 25 ls st H Q = M10 27 ls (.int 8 :: st) H Q := w_con (show decode kb10 25 = .ok (.bipush 8, 2) from by decide +kernel) rfl (by decide)
theorem m10_27 : M10 27 ls (.int y :: .int x :: st) H Q = M10 28 ls (.int (x * y) :: st) H Q := w_x (show decode kb10 27 = .ok (.imul, 1) from by decide +kernel) rfl
theorem m10_28 : M10 28 [l0, l1, .val (.int v), l3, l4, l5] st H Q = M10 29 [l0, l1, .val (.int v), l3, l4, l5] (.int v :: st) H Q := w_x (show decode kb10 28 = .ok (.iload_n 2, 1) from by decide +kernel) rfl
theorem m10_29 : M10 29 ls (.int y :: .int x :: st) H Q = M10 30 ls (.int (x + y) :: st) H Q := w_x (show decode kb10 29 = .ok (.iadd, 1) from by decide +kernel) rfl
theorem m10_30  : M10 30 ls (.int j :: .ref ((b + 1) + 4) :: st) (put (b + 1) pre s A post) Q = (inB j (A 3) ∧ M10 31 ls (.int (getA (A 3) j) :: st) (put (b + 1) pre s A post) Q) := w_ild (show decode kb10 30 = .ok (.iaload, 1) from by decide +kernel) rfl put_a3
theorem m10_31 : M10 31 ls (.int x :: st) H Q = if x < 0 then M10 34 ls st H Q else M10 62 ls st H Q := w_ifN (show decode kb10 31 = .ok (.ifCond .ge 31, 3) from by decide +kernel) (z_ge x) rfl
theorem m10_34 : M10 34 [.val (.ref r), l1, l2, l3, l4, l5] st H Q = M10 35 [.val (.ref r), l1, l2, l3, l4, l5] (.ref r :: st) H Q := w_x (show decode kb10 34 = .ok (.aload_n 0, 1) from by decide +kernel) rfl
theorem m10_35 : M10 35 ls (.ref (b + 1) :: st) (put (b + 1) pre s A post) Q = M10 38 ls (.ref ((b + 1) + 4) :: st) (put (b + 1) pre s A post) Q := w_get (show decode kb10 35 = .ok (.getfield 19, 3) from by decide +kernel) gf_19 put_o rfl
theorem m10_38 : M10 38 [l0, l1, l2, l3, .val (.int v), l5] st H Q = M10 40 [l0, l1, l2, l3, .val (.int v), l5] (.int v :: st) H Q := w_x (show decode kb10 38 = .ok (.iload 4, 2) from by decide +kernel) rfl
theorem m10_40 : M10 40 ls st H Q = M10 42 ls (.int 8 :: st) H Q := w_con (show decode kb10 40 = .ok (.bipush 8, 2) from by decide +kernel) rfl (by decide)
theorem m10_42 : M10 42 ls (.int y :: .int x :: st) H Q = M10 43 ls (.int (x * y) :: st) H Q := w_x (show decode kb10 42 = .ok (.imul, 1) from by decide +kernel) rfl
theorem m10_43 : M10 43 [l0, l1, .val (.int v), l3, l4, l5] st H Q = M10 44 [l0, l1, .val (.int v), l3, l4, l5] (.int v :: st) H Q := w_x (show decode kb10 43 = .ok (.iload_n 2, 1) from by decide +kernel) rfl
theorem m10_44 : M10 44 ls (.int y :: .int x :: st) H Q = M10 45 ls (.int (x + y) :: st) H Q := w_x (show decode kb10 44 = .ok (.iadd, 1) from by decide +kernel) rfl
theorem m10_45 : M10 45 [l0, l1, l2, .val (.int v), l4, l5] st H Q = M10 46 [l0, l1, l2, .val (.int v), l4, l5] (.int v :: st) H Q := w_x (show decode kb10 45 = .ok (.iload_n 3, 1) from by decide +kernel) rfl
theorem m10_46  : M10 46 ls (.int v :: .int j :: .ref ((b + 1) + 4) :: st) (put (b + 1) pre s A post) Q = (inB j (A 3) ∧ M10 47 ls st (put (b + 1) pre s (ou A 3 (setA (A 3) j v)) post) Q) := w_ist (show decode kb10 46 = .ok (.iastore, 1) from by decide +kernel) rfl put_a3 (by omega) rfl put_w3
theorem m10_47 : M10 47 [.val (.ref r), l1, l2, l3, l4, l5] st H Q = M10 48 [.val (.ref r), l1, l2, l3, l4, l5] (.ref r :: st) H Q := w_x (show decode kb10 47 = .ok (.aload_n 0, 1) from by decide +kernel) rfl
theorem m10_48 : M10 48 ls (.ref (b + 1) :: st) (put (b + 1) pre s A post) Q = M10 51 ls (.ref ((b + 1) + 5) :: st) (put (b + 1) pre s A post) Q := w_get (show decode kb10 48 = .ok (.getfield 22, 3) from by decide +kernel) gf_22 put_o rfl
theorem m10_51 : M10 51 [l0, l1, l2, l3, .val (.int v), l5] st H Q = M10 53 [l0, l1, l2, l3, .val (.int v), l5] (.int v :: st) H Q := w_x (show decode kb10 51 = .ok (.iload 4, 2) from by decide +kernel) rfl
theorem m10_53  : M10 53 ls (.int j :: .ref ((b + 1) + 5) :: st) (put (b + 1) pre s A post) Q = (inB j (A 4) ∧ M10 54 ls (.int (getA (A 4) j) :: st) (put (b + 1) pre s A post) Q) := w_ild (show decode kb10 53 = .ok (.iaload, 1) from by decide +kernel) rfl put_a4
theorem m10_54i : M10 54 [l0, l1, l2, l3, .val (.int z), l5] ((.int v) :: st) H Q = M10 56 [l0, l1, l2, l3, .val (.int v), l5] st H Q := w_st (i := 4) (p := isI) (show decode kb10 54 = .ok (.istore 4, 2) from by decide +kernel) rfl rfl rfl rfl rfl rfl
theorem m10_56 : M10 56 [l0, l1, l2, l3, l4, .val (.int v)] st H Q = M10 59 [l0, l1, l2, l3, l4, .val (.int (v + 1))] st H Q := w_iinc (show decode kb10 56 = .ok (.iinc 5 1, 3) from by decide +kernel) rfl (by decide) rfl
theorem m10_59 : M10 59 ls st H Q = M10 6 ls st H Q := w_x (show decode kb10 59 = .ok (.goto (-53), 3) from by decide +kernel) rfl
theorem m10_62 : M10 62 [l0, l1, l2, l3, .val (.int v), l5] st H Q = M10 64 [l0, l1, l2, l3, .val (.int v), l5] (.int v :: st) H Q := w_x (show decode kb10 62 = .ok (.iload 4, 2) from by decide +kernel) rfl
theorem m10_64 : M10 64 ls (.int z :: st) H Q = Q (some (.int z)) H := w_iret (show decode kb10 64 = .ok (.ireturn, 1) from by decide +kernel) rfl
theorem m11_0 : M11 0 [l0, .val (.int v)] st H Q = M11 1 [l0, .val (.int v)] (.int v :: st) H Q := w_x (show decode kb11 0 = .ok (.iload_n 1, 1) from by decide +kernel) rfl
theorem m11_1 : M11 1 ls (.int x :: st) H Q = if x < 0 then M11 12 ls st H Q else M11 4 ls st H Q := w_if (show decode kb11 1 = .ok (.ifCond .lt 11, 3) from by decide +kernel) (z_lt x) rfl
theorem m11_4 : M11 4 [l0, .val (.int v)] st H Q = M11 5 [l0, .val (.int v)] (.int v :: st) H Q := w_x (show decode kb11 4 = .ok (.iload_n 1, 1) from by decide +kernel) rfl
theorem m11_5 : M11 5 [.val (.ref r), l1] st H Q = M11 6 [.val (.ref r), l1] (.ref r :: st) H Q := w_x (show decode kb11 5 = .ok (.aload_n 0, 1) from by decide +kernel) rfl
theorem m11_6 : M11 6 ls (.ref (b + 1) :: st) (put (b + 1) pre s A post) Q = M11 9 ls (.int (s 0) :: st) (put (b + 1) pre s A post) Q := w_get (show decode kb11 6 = .ok (.getfield 44, 3) from by decide +kernel) gf_44 put_o rfl
theorem m11_9 : M11 9 ls (.int y :: .int x :: st) H Q = if x < y then M11 14 ls st H Q else M11 12 ls st H Q := w_icmp (show decode kb11 9 = .ok (.if_icmp .lt 5, 3) from by decide +kernel) (i_lt x y) rfl
theorem m11_12 : M11 12 ls st H Q = M11 13 ls (.int 0 :: st) H Q := w_con (show decode kb11 12 = .ok (.iconst 0, 1) from by decide +kernel) rfl (by decide)
theorem m11_13 : M11 13 ls (.int z :: st) H Q = Q (some (.int (nar .boolean z))) H := w_iretN (show decode kb11 13 = .ok (.ireturn, 1) from by decide +kernel) rfl (by simp)
theorem m11_14 : M11 14 [.val (.ref r), l1] st H Q = M11 15 [.val (.ref r), l1] (.ref r :: st) H Q := w_x (show decode kb11 14 = .ok (.aload_n 0, 1) from by decide +kernel) rfl
theorem m11_15 : M11 15 ls (.ref (b + 1) :: st) (put (b + 1) pre s A post) Q = M11 18 ls (.int (s 3) :: st) (put (b + 1) pre s A post) Q := w_get (show decode kb11 15 = .ok (.getfield 54, 3) from by decide +kernel) gf_54 put_o rfl
theorem m11_18 : M11 18 ls st H Q = M11 20 ls (.int 64 :: st) H Q := w_con (show decode kb11 18 = .ok (.bipush 64, 2) from by decide +kernel) rfl (by decide)
theorem m11_20 : M11 20 ls (.int y :: .int x :: st) H Q = if x < y then M11 25 ls st H Q else M11 23 ls st H Q := w_icmp (show decode kb11 20 = .ok (.if_icmp .lt 5, 3) from by decide +kernel) (i_lt x y) rfl
theorem m11_23 : M11 23 ls st H Q = M11 24 ls (.int 0 :: st) H Q := w_con (show decode kb11 23 = .ok (.iconst 0, 1) from by decide +kernel) rfl (by decide)
theorem m11_24 : M11 24 ls (.int z :: st) H Q = Q (some (.int (nar .boolean z))) H := w_iretN (show decode kb11 24 = .ok (.ireturn, 1) from by decide +kernel) rfl (by simp)
theorem m11_25 : M11 25 [.val (.ref r), l1] st H Q = M11 26 [.val (.ref r), l1] (.ref r :: st) H Q := w_x (show decode kb11 25 = .ok (.aload_n 0, 1) from by decide +kernel) rfl
theorem m11_26 : M11 26 ls (.ref (b + 1) :: st) (put (b + 1) pre s A post) Q = M11 29 ls (.ref ((b + 1) + 2) :: st) (put (b + 1) pre s A post) Q := w_get (show decode kb11 26 = .ok (.getfield 13, 3) from by decide +kernel) gf_13 put_o rfl
theorem m11_29 : M11 29 [.val (.ref r), l1] st H Q = M11 30 [.val (.ref r), l1] (.ref r :: st) H Q := w_x (show decode kb11 29 = .ok (.aload_n 0, 1) from by decide +kernel) rfl
theorem m11_30 : M11 30 ls (.ref (b + 1) :: st) (put (b + 1) pre s A post) Q = M11 33 ls (.int (s 3) :: st) (put (b + 1) pre s A post) Q := w_get (show decode kb11 30 = .ok (.getfield 54, 3) from by decide +kernel) gf_54 put_o rfl
theorem m11_33 : M11 33 [l0, .val (.int v)] st H Q = M11 34 [l0, .val (.int v)] (.int v :: st) H Q := w_x (show decode kb11 33 = .ok (.iload_n 1, 1) from by decide +kernel) rfl
theorem m11_34  : M11 34 ls (.int v :: .int j :: .ref ((b + 1) + 2) :: st) (put (b + 1) pre s A post) Q = (inB j (A 1) ∧ M11 35 ls st (put (b + 1) pre s (ou A 1 (setA (A 1) j v)) post) Q) := w_ist (show decode kb11 34 = .ok (.iastore, 1) from by decide +kernel) rfl put_a1 (by omega) rfl put_w1
theorem m11_35 : M11 35 [.val (.ref r), l1] st H Q = M11 36 [.val (.ref r), l1] (.ref r :: st) H Q := w_x (show decode kb11 35 = .ok (.aload_n 0, 1) from by decide +kernel) rfl
theorem m11_36 : M11 36 ls ((.ref r) :: st) H Q = M11 37 ls ((.ref r) :: (.ref r) :: st) H Q := w_x (show decode kb11 36 = .ok (.dup, 1) from by decide +kernel) rfl
theorem m11_37 : M11 37 ls (.ref (b + 1) :: st) (put (b + 1) pre s A post) Q = M11 40 ls (.int (s 3) :: st) (put (b + 1) pre s A post) Q := w_get (show decode kb11 37 = .ok (.getfield 54, 3) from by decide +kernel) gf_54 put_o rfl
theorem m11_40 : M11 40 ls st H Q = M11 41 ls (.int 1 :: st) H Q := w_con (show decode kb11 40 = .ok (.iconst 1, 1) from by decide +kernel) rfl (by decide)
theorem m11_41 : M11 41 ls (.int y :: .int x :: st) H Q = M11 42 ls (.int (x + y) :: st) H Q := w_x (show decode kb11 41 = .ok (.iadd, 1) from by decide +kernel) rfl
theorem pf11_54 : pfR tables_1 y11.cls y11.name 54 = some ("SuffixAutomat", 14, .int) := by decide +kernel
theorem m11_42 : M11 42 ls (.int v :: .ref (b + 1) :: st) (put (b + 1) pre s A post) Q = M11 45 ls st (put (b + 1) pre (ou s 3 v) A post) Q := w_put (show decode kb11 42 = .ok (.putfield 54, 3) from by decide +kernel) pf11_54 put_o (Nat.succ_le_succ (Nat.zero_le _)) (by show 14 < 20; omega) rfl put_s3
theorem m11_45 : M11 45 ls st H Q = M11 46 ls (.int 1 :: st) H Q := w_con (show decode kb11 45 = .ok (.iconst 1, 1) from by decide +kernel) rfl (by decide)
theorem m11_46 : M11 46 ls (.int z :: st) H Q = Q (some (.int (nar .boolean z))) H := w_iretN (show decode kb11 46 = .ok (.ireturn, 1) from by decide +kernel) rfl (by simp)
theorem m12_0 : M12 0 [l0, .val (.int v)] st H Q = M12 1 [l0, .val (.int v)] (.int v :: st) H Q := w_x (show decode kb12 0 = .ok (.iload_n 1, 1) from by decide +kernel) rfl
theorem m12_1 : M12 1 ls (.int x :: st) H Q = if x < 0 then M12 12 ls st H Q else M12 4 ls st H Q := w_if (show decode kb12 1 = .ok (.ifCond .lt 11, 3) from by decide +kernel) (z_lt x) rfl
theorem m12_4 : M12 4 [l0, .val (.int v)] st H Q = M12 5 [l0, .val (.int v)] (.int v :: st) H Q := w_x (show decode kb12 4 = .ok (.iload_n 1, 1) from by decide +kernel) rfl
theorem m12_5 : M12 5 [.val (.ref r), l1] st H Q = M12 6 [.val (.ref r), l1] (.ref r :: st) H Q := w_x (show decode kb12 5 = .ok (.aload_n 0, 1) from by decide +kernel) rfl
theorem m12_6 : M12 6 ls (.ref (b + 1) :: st) (put (b + 1) pre s A post) Q = M12 9 ls (.int (s 2) :: st) (put (b + 1) pre s A post) Q := w_get (show decode kb12 6 = .ok (.getfield 51, 3) from by decide +kernel) gf_51 put_o rfl
theorem m12_9 : M12 9 ls (.int y :: .int x :: st) H Q = if x < y then M12 14 ls st H Q else M12 12 ls st H Q := w_icmp (show decode kb12 9 = .ok (.if_icmp .lt 5, 3) from by decide +kernel) (i_lt x y) rfl
theorem m12_12 : M12 12 ls st H Q = M12 13 ls (.int (-1) :: st) H Q := w_con (show decode kb12 12 = .ok (.iconst (-1), 1) from by decide +kernel) rfl (by decide)
theorem m12_13 : M12 13 ls (.int z :: st) H Q = Q (some (.int z)) H := w_iret (show decode kb12 13 = .ok (.ireturn, 1) from by decide +kernel) rfl
theorem m12_14 : M12 14 [.val (.ref r), l1] st H Q = M12 15 [.val (.ref r), l1] (.ref r :: st) H Q := w_x (show decode kb12 14 = .ok (.aload_n 0, 1) from by decide +kernel) rfl
theorem m12_15 : M12 15 ls (.ref (b + 1) :: st) (put (b + 1) pre s A post) Q = M12 18 ls (.ref ((b + 1) + 1) :: st) (put (b + 1) pre s A post) Q := w_get (show decode kb12 15 = .ok (.getfield 7, 3) from by decide +kernel) gf_7 put_o rfl
theorem m12_18 : M12 18 [l0, .val (.int v)] st H Q = M12 19 [l0, .val (.int v)] (.int v :: st) H Q := w_x (show decode kb12 18 = .ok (.iload_n 1, 1) from by decide +kernel) rfl
theorem m12_19  : M12 19 ls (.int j :: .ref ((b + 1) + 1) :: st) (put (b + 1) pre s A post) Q = (inB j (A 0) ∧ M12 20 ls (.int (getA (A 0) j) :: st) (put (b + 1) pre s A post) Q) := w_ild (show decode kb12 19 = .ok (.iaload, 1) from by decide +kernel) rfl put_a0
theorem m12_20 : M12 20 ls (.int z :: st) H Q = Q (some (.int z)) H := w_iret (show decode kb12 20 = .ok (.ireturn, 1) from by decide +kernel) rfl
theorem m13_0 : M13 0 ls st H Q = M13 1 ls (.int 0 :: st) H Q := w_con (show decode kb13 0 = .ok (.iconst 0, 1) from by decide +kernel) rfl (by decide)
theorem m13_1u : M13 1 [l0, .unset, l2, l3, l4] ((.int v) :: st) H Q = M13 2 [l0, .val (.int v), l2, l3, l4] st H Q := w_st (i := 1) (p := isI) (show decode kb13 1 = .ok (.istore_n 1, 1) from by decide +kernel) rfl rfl rfl rfl rfl rfl
theorem m13_2 : M13 2 ls st H Q = M13 3 ls (.int 0 :: st) H Q := w_con (show decode kb13 2 = .ok (.iconst 0, 1) from by decide +kernel) rfl (by decide)
theorem m13_3u : M13 3 [l0, l1, .unset, l3, l4] ((.int v) :: st) H Q = M13 4 [l0, l1, .val (.int v), l3, l4] st H Q := w_st (i := 2) (p := isI) (show decode kb13 3 = .ok (.istore_n 2, 1) from by decide +kernel) rfl rfl rfl rfl rfl rfl
theorem m13_4 : M13 4 [l0, l1, .val (.int v), l3, l4] st H Q = M13 5 [l0, l1, .val (.int v), l3, l4] (.int v :: st) H Q := w_x (show decode kb13 4 = .ok (.iload_n 2, 1) from by decide +kernel) rfl
theorem m13_5 : M13 5 [.val (.ref r), l1, l2, l3, l4] st H Q = M13 6 [.val (.ref r), l1, l2, l3, l4] (.ref r :: st) H Q := w_x (show decode kb13 5 = .ok (.aload_n 0, 1) from by decide +kernel) rfl
theorem m13_6 : M13 6 ls (.ref (b + 1) :: st) (put (b + 1) pre s A post) Q = M13 9 ls (.int (s 3) :: st) (put (b + 1) pre s A post) Q := w_get (show decode kb13 6 = .ok (.getfield 54, 3) from by decide +kernel) gf_54 put_o rfl
theorem m13_9 : M13 9 ls (.int y :: .int x :: st) H Q = if x < y then M13 12 ls st H Q else M13 66 ls st H Q := w_icmpN (show decode kb13 9 = .ok (.if_icmp .ge 57, 3) from by decide +kernel) (i_ge x y) rfl
theorem m13_12 : M13 12 [l0, l1, .val (.int v), l3, l4] st H Q = M13 13 [l0, l1, .val (.int v), l3, l4] (.int v :: st) H Q := w_x (show decode kb13 12 = .ok (.iload_n 2, 1) from by decide +kernel) rfl
theorem m13_13 : M13 13 ls st H Q = M13 15 ls (.int 64 :: st) H Q := w_con (show decode kb13 13 = .ok (.bipush 64, 2) from by decide +kernel) rfl (by decide)
theorem m13_15 : M13 15 ls (.int y :: .int x :: st) H Q = if x < y then M13 18 ls st H Q else M13 66 ls st H Q := w_icmpN (show decode kb13 15 = .ok (.if_icmp .ge 51, 3) from by decide +kernel) (i_ge x y) rfl
theorem m13_18 : M13 18 [.val (.ref r), l1, l2, l3, l4] st H Q = M13 19 [.val (.ref r), l1, l2, l3, l4] (.ref r :: st) H Q := w_x (show decode kb13 18 = .ok (.aload_n 0, 1) from by decide +kernel) rfl
theorem m13_19 : M13 19 ls (.ref (b + 1) :: st) (put (b + 1) pre s A post) Q = M13 22 ls (.ref ((b + 1) + 2) :: st) (put (b + 1) pre s A post) Q := w_get (show decode kb13 19 = .ok (.getfield 13, 3) from by decide +kernel) gf_13 put_o rfl
theorem m13_22 : M13 22 [l0, l1, .val (.int v), l3, l4] st H Q = M13 23 [l0, l1, .val (.int v), l3, l4] (.int v :: st) H Q := w_x (show decode kb13 22 = .ok (.iload_n 2, 1) from by decide +kernel) rfl
theorem m13_23  : M13 23 ls (.int j :: .ref ((b + 1) + 2) :: st) (put (b + 1) pre s A post) Q = (inB j (A 1) ∧ M13 24 ls (.int (getA (A 1) j) :: st) (put (b + 1) pre s A post) Q) := w_ild (show decode kb13 23 = .ok (.iaload, 1) from by decide +kernel) rfl put_a1
theorem m13_24u : M13 24 [l0, l1, l2, .unset, l4] ((.int v) :: st) H Q = M13 25 [l0, l1, l2, .val (.int v), l4] st H Q := w_st (i := 3) (p := isI) (show decode kb13 24 = .ok (.istore_n 3, 1) from by decide +kernel) rfl rfl rfl rfl rfl rfl
theorem m13_24i : M13 24 [l0, l1, l2, .val (.int z), l4] ((.int v) :: st) H Q = M13 25 [l0, l1, l2, .val (.int v), l4] st H Q := w_st (i := 3) (p := isI) (show decode kb13 24 = .ok (.istore_n 3, 1) from by decide +kernel) rfl rfl rfl rfl rfl rfl
theorem m13_24r : M13 24 [l0, l1, l2, .val (.ref q), l4] ((.int v) :: st) H Q = M13 25 [l0, l1, l2, .val (.int v), l4] st H Q := w_st (i := 3) (p := isI) (show decode kb13 24 = .ok (.istore_n 3, 1) from by decide +kernel) rfl rfl rfl rfl rfl rfl
theorem m13_24g (h : okS l3) : M13 24 [l0, l1, l2, l3, l4] ((.int v) :: st) H Q = M13 25 [l0, l1, l2, .val (.int v), l4] st H Q := by rcases h with rfl | ⟨z, rfl⟩ <;> first | exact m13_24u | exact m13_24i
theorem m13_25 : M13 25 [l0, l1, l2, .val (.int v), l4] st H Q = M13 26 [l0, l1, l2, .val (.int v), l4] (.int v :: st) H Q := w_x (show decode kb13 25 = .ok (.iload_n 3, 1) from by decide +kernel) rfl
theorem m13_26 : M13 26 ls (.int x :: st) H Q = if x < 0 then M13 35 ls st H Q else M13 29 ls st H Q := w_if (show decode kb13 26 = .ok (.ifCond .lt 9, 3) from by decide +kernel) (z_lt x) rfl
theorem m13_29 : M13 29 [l0, l1, l2, .val (.int v), l4] st H Q = M13 30 [l0, l1, l2, .val (.int v), l4] (.int v :: st) H Q := w_x (show decode kb13 29 = .ok (.iload_n 3, 1) from by decide +kernel) rfl
theorem m13_30 : M13 30 ls st H Q = M13 32 ls (.int 8 :: st) H Q := w_con (show decode kb13 30 = .ok (.bipush 8, 2) from by decide +kernel) rfl (by decide)
theorem m13_32 : M13 32 ls (.int y :: .int x :: st) H Q = if x < y then M13 37 ls st H Q else M13 35 ls st H Q := w_icmp (show decode kb13 32 = .ok (.if_icmp .lt 5, 3) from by decide +kernel) (i_lt x y) rfl
theorem m13_35 : M13 35 ls st H Q = M13 36 ls (.int (-1) :: st) H Q := w_con (show decode kb13 35 = .ok (.iconst (-1), 1) from by decide +kernel) rfl (by decide)
theorem m13_36 : M13 36 ls (.int z :: st) H Q = Q (some (.int z)) H := w_iret (show decode kb13 36 = .ok (.ireturn, 1) from by decide +kernel) rfl
theorem m13_37 : M13 37 [.val (.ref r), l1, l2, l3, l4] st H Q = M13 38 [.val (.ref r), l1, l2, l3, l4] (.ref r :: st) H Q := w_x (show decode kb13 37 = .ok (.aload_n 0, 1) from by decide +kernel) rfl
theorem m13_38 : M13 38 ls (.ref (b + 1) :: st) (put (b + 1) pre s A post) Q = M13 41 ls (.ref ((b + 1) + 4) :: st) (put (b + 1) pre s A post) Q := w_get (show decode kb13 38 = .ok (.getfield 19, 3) from by decide +kernel) gf_19 put_o rfl
theorem m13_41 : M13 41 [l0, .val (.int v), l2, l3, l4] st H Q = M13 42 [l0, .val (.int v), l2, l3, l4] (.int v :: st) H Q := w_x (show decode kb13 41 = .ok (.iload_n 1, 1) from by decide +kernel) rfl
theorem m13_42 : M13 42 ls st H Q = M13 44 ls (.int 8 :: st) H Q := w_con (show decode kb13 42 = .ok (.bipush 8, 2) from by decide +kernel) rfl (by decide)
theorem m13_44 : M13 44 ls (.int y :: .int x :: st) H Q = M13 45 ls (.int (x * y) :: st) H Q := w_x (show decode kb13 44 = .ok (.imul, 1) from by decide +kernel) rfl
theorem m13_45 : M13 45 [l0, l1, l2, .val (.int v), l4] st H Q = M13 46 [l0, l1, l2, .val (.int v), l4] (.int v :: st) H Q := w_x (show decode kb13 45 = .ok (.iload_n 3, 1) from by decide +kernel) rfl
theorem m13_46 : M13 46 ls (.int y :: .int x :: st) H Q = M13 47 ls (.int (x + y) :: st) H Q := w_x (show decode kb13 46 = .ok (.iadd, 1) from by decide +kernel) rfl
theorem m13_47  : M13 47 ls (.int j :: .ref ((b + 1) + 4) :: st) (put (b + 1) pre s A post) Q = (inB j (A 3) ∧ M13 48 ls (.int (getA (A 3) j) :: st) (put (b + 1) pre s A post) Q) := w_ild (show decode kb13 47 = .ok (.iaload, 1) from by decide +kernel) rfl put_a3
theorem m13_48u : M13 48 [l0, l1, l2, l3, .unset] ((.int v) :: st) H Q = M13 50 [l0, l1, l2, l3, .val (.int v)] st H Q := w_st (i := 4) (p := isI) (show decode kb13 48 = .ok (.istore 4, 2) from by decide +kernel) rfl rfl rfl rfl rfl rfl
theorem m13_48i : M13 48 [l0, l1, l2, l3, .val (.int z)] ((.int v) :: st) H Q = M13 50 [l0, l1, l2, l3, .val (.int v)] st H Q := w_st (i := 4) (p := isI) (show decode kb13 48 = .ok (.istore 4, 2) from by decide +kernel) rfl rfl rfl rfl rfl rfl
theorem m13_48r : M13 48 [l0, l1, l2, l3, .val (.ref q)] ((.int v) :: st) H Q = M13 50 [l0, l1, l2, l3, .val (.int v)] st H Q := w_st (i := 4) (p := isI) (show decode kb13 48 = .ok (.istore 4, 2) from by decide +kernel) rfl rfl rfl rfl rfl rfl
theorem m13_48g (h : okS l4) : M13 48 [l0, l1, l2, l3, l4] ((.int v) :: st) H Q = M13 50 [l0, l1, l2, l3, .val (.int v)] st H Q := by rcases h with rfl | ⟨z, rfl⟩ <;> first | exact m13_48u | exact m13_48i
theorem m13_50 : M13 50 [l0, l1, l2, l3, .val (.int v)] st H Q = M13 52 [l0, l1, l2, l3, .val (.int v)] (.int v :: st) H Q := w_x (show decode kb13 50 = .ok (.iload 4, 2) from by decide +kernel) rfl
theorem m13_52 : M13 52 ls (.int x :: st) H Q = if x < 0 then M13 55 ls st H Q else M13 57 ls st H Q := w_ifN (show decode kb13 52 = .ok (.ifCond .ge 5, 3) from by decide +kernel) (z_ge x) rfl
theorem m13_55 : M13 55 ls st H Q = M13 56 ls (.int (-1) :: st) H Q := w_con (show decode kb13 55 = .ok (.iconst (-1), 1) from by decide +kernel) rfl (by decide)
theorem m13_56 : M13 56 ls (.int z :: st) H Q = Q (some (.int z)) H := w_iret (show decode kb13 56 = .ok (.ireturn, 1) from by decide +kernel) rfl
theorem m13_57 : M13 57 [l0, l1, l2, l3, .val (.int v)] st H Q = M13 59 [l0, l1, l2, l3, .val (.int v)] (.int v :: st) H Q := w_x (show decode kb13 57 = .ok (.iload 4, 2) from by decide +kernel) rfl
theorem m13_59i : M13 59 [l0, .val (.int z), l2, l3, l4] ((.int v) :: st) H Q = M13 60 [l0, .val (.int v), l2, l3, l4] st H Q := w_st (i := 1) (p := isI) (show decode kb13 59 = .ok (.istore_n 1, 1) from by decide +kernel) rfl rfl rfl rfl rfl rfl
theorem m13_60 : M13 60 [l0, l1, .val (.int v), l3, l4] st H Q = M13 63 [l0, l1, .val (.int (v + 1)), l3, l4] st H Q := w_iinc (show decode kb13 60 = .ok (.iinc 2 1, 3) from by decide +kernel) rfl (by decide) rfl
theorem m13_63 : M13 63 ls st H Q = M13 4 ls st H Q := w_x (show decode kb13 63 = .ok (.goto (-59), 3) from by decide +kernel) rfl
theorem m13_66 : M13 66 [l0, .val (.int v), l2, l3, l4] st H Q = M13 67 [l0, .val (.int v), l2, l3, l4] (.int v :: st) H Q := w_x (show decode kb13 66 = .ok (.iload_n 1, 1) from by decide +kernel) rfl
theorem m13_67 : M13 67 ls (.int z :: st) H Q = Q (some (.int z)) H := w_iret (show decode kb13 67 = .ok (.ireturn, 1) from by decide +kernel) rfl
theorem m14_0 : M14 0 [.val (.ref r), l1, l2, l3] st H Q = M14 1 [.val (.ref r), l1, l2, l3] (.ref r :: st) H Q := w_x (show decode kb14 0 = .ok (.aload_n 0, 1) from by decide +kernel) rfl
theorem m14_1 : M14 1 ls (.ref (b + 1) :: st) (put (b + 1) pre s A post) Q = M14 4 ls (.int (s 8) :: st) (put (b + 1) pre s A post) Q := w_get (show decode kb14 1 = .ok (.getfield 92, 3) from by decide +kernel) gf_92 put_o rfl
theorem m14_4 : M14 4 ls (.int x :: st) H Q = if x = 0 then M14 8 ls st H Q else M14 7 ls st H Q := w_if (show decode kb14 4 = .ok (.ifCond .eq 4, 3) from by decide +kernel) (z_eq x) rfl
theorem m14_7 : M14 7 ls [] H Q = Q none H := w_vret (show decode kb14 7 = .ok (.return_, 1) from by decide +kernel) rfl
theorem m14_8 : M14 8 [.val (.ref r), l1, l2, l3] st H Q = M14 9 [.val (.ref r), l1, l2, l3] (.ref r :: st) H Q := w_x (show decode kb14 8 = .ok (.aload_n 0, 1) from by decide +kernel) rfl
theorem cr14_107 : vR tables_1 dn y14 107 = some (true, y15, prog_1_method_25_code, 4, none, 0, 0) := pR_of (cR_of (by decide +kernel) rc_15 dn_15 dn_14 (sig := ⟨[], none⟩) (by decide +kernel) (by decide +kernel) rfl rfl) (by decide +kernel) (by decide +kernel)
theorem m14_9 : M14 9 ls [.ref (b + 1)] (put (b + 1) pre s A post) Q = M15 0 [.val (.ref (b + 1)), .unset, .unset, .unset] [] (put (b + 1) pre s A post) (fun v H1 => M14 12 ls (v.toList ++ []) H1 Q) := w_virt (as := []) (rest := []) (a := (b + 1)) (show decode kb14 9 = .ok (.invokevirtual 107, 3) from by decide +kernel) cr14_107 put_o rfl rfl (Nat.le_of_ble_eq_true rfl) (by show 1 ≤ 4; omega) rfl
theorem m14_12 : M14 12 ls st H Q = M14 13 ls (.int 0 :: st) H Q := w_con (show decode kb14 12 = .ok (.iconst 0, 1) from by decide +kernel) rfl (by decide)
theorem m14_13u : M14 13 [l0, .unset, l2, l3] ((.int v) :: st) H Q = M14 14 [l0, .val (.int v), l2, l3] st H Q := w_st (i := 1) (p := isI) (show decode kb14 13 = .ok (.istore_n 1, 1) from by decide +kernel) rfl rfl rfl rfl rfl rfl
theorem m14_14 : M14 14 [l0, .val (.int v), l2, l3] st H Q = M14 15 [l0, .val (.int v), l2, l3] (.int v :: st) H Q := w_x (show decode kb14 14 = .ok (.iload_n 1, 1) from by decide +kernel) rfl
theorem m14_15 : M14 15 [.val (.ref r), l1, l2, l3] st H Q = M14 16 [.val (.ref r), l1, l2, l3] (.ref r :: st) H Q := w_x (show decode kb14 15 = .ok (.aload_n 0, 1) from by decide +kernel) rfl
theorem m14_16 : M14 16 ls (.ref (b + 1) :: st) (put (b + 1) pre s A post) Q = M14 19 ls (.int (s 5) :: st) (put (b + 1) pre s A post) Q := w_get (show decode kb14 16 = .ok (.getfield 77, 3) from by decide +kernel) gf_77 put_o rfl
theorem m14_19 : M14 19 ls (.int y :: .int x :: st) H Q = if x < y then M14 22 ls st H Q else M14 59 ls st H Q := w_icmpN (show decode kb14 19 = .ok (.if_icmp .ge 40, 3) from by decide +kernel) (i_ge x y) rfl
theorem m14_22 : M14 22 [l0, .val (.int v), l2, l3] st H Q = M14 23 [l0, .val (.int v), l2, l3] (.int v :: st) H Q := w_x (show decode kb14 22 = .ok (.iload_n 1, 1) from by decide +kernel) rfl
theorem m14_23 : M14 23 ls st H Q = M14 26 ls (.int 128 :: st) H Q := w_con (show decode kb14 23 = .ok (.sipush 128, 3) from by decide +kernel) rfl (by decide)
theorem m14_26 : M14 26 ls (.int y :: .int x :: st) H Q = if x < y then M14 29 ls st H Q else M14 59 ls st H Q := w_icmpN (show decode kb14 26 = .ok (.if_icmp .ge 33, 3) from by decide +kernel) (i_ge x y) rfl
theorem m14_29 : M14 29 [.val (.ref r), l1, l2, l3] st H Q = M14 30 [.val (.ref r), l1, l2, l3] (.ref r :: st) H Q := w_x (show decode kb14 29 = .ok (.aload_n 0, 1) from by decide +kernel) rfl
theorem m14_30 : M14 30 ls (.ref (b + 1) :: st) (put (b + 1) pre s A post) Q = M14 33 ls (.ref ((b + 1) + 9) :: st) (put (b + 1) pre s A post) Q := w_get (show decode kb14 30 = .ok (.getfield 35, 3) from by decide +kernel) gf_35 put_o rfl
theorem m14_33 : M14 33 [l0, .val (.int v), l2, l3] st H Q = M14 34 [l0, .val (.int v), l2, l3] (.int v :: st) H Q := w_x (show decode kb14 33 = .ok (.iload_n 1, 1) from by decide +kernel) rfl
theorem m14_34 : M14 34 [l0, .val (.int v), l2, l3] st H Q = M14 35 [l0, .val (.int v), l2, l3] (.int v :: st) H Q := w_x (show decode kb14 34 = .ok (.iload_n 1, 1) from by decide +kernel) rfl
theorem m14_35 : M14 35 ls (.int x :: st) H Q = if x = 0 then M14 51 ls st H Q else M14 38 ls st H Q := w_if (show decode kb14 35 = .ok (.ifCond .eq 16, 3) from by decide +kernel) (z_eq x) rfl
theorem m14_38 : M14 38 [.val (.ref r), l1, l2, l3] st H Q = M14 39 [.val (.ref r), l1, l2, l3] (.ref r :: st) H Q := w_x (show decode kb14 38 = .ok (.aload_n 0, 1) from by decide +kernel) rfl
theorem m14_39 : M14 39 ls (.ref (b + 1) :: st) (put (b + 1) pre s A post) Q = M14 42 ls (.ref ((b + 1) + 8) :: st) (put (b + 1) pre s A post) Q := w_get (show decode kb14 39 = .ok (.getfield 31, 3) from by decide +kernel) gf_31 put_o rfl
theorem m14_42 : M14 42 [l0, .val (.int v), l2, l3] st H Q = M14 43 [l0, .val (.int v), l2, l3] (.int v :: st) H Q := w_x (show decode kb14 42 = .ok (.iload_n 1, 1) from by decide +kernel) rfl
theorem m14_43  : M14 43 ls (.int j :: .ref ((b + 1) + 8) :: st) (put (b + 1) pre s A post) Q = (inB j (A 7) ∧ M14 44 ls (.int (getA (A 7) j) :: st) (put (b + 1) pre s A post) Q) := w_ild (show decode kb14 43 = .ok (.baload, 1) from by decide +kernel) rfl put_a7
theorem m14_44 : M14 44 ls (.int x :: st) H Q = if x = 0 then M14 47 ls st H Q else M14 51 ls st H Q := w_ifN (show decode kb14 44 = .ok (.ifCond .ne 7, 3) from by decide +kernel) (z_ne x) rfl
theorem m14_47 : M14 47 ls st H Q = M14 48 ls (.int 1 :: st) H Q := w_con (show decode kb14 47 = .ok (.iconst 1, 1) from by decide +kernel) rfl (by decide)
theorem m14_48 : M14 48 ls st H Q = M14 52 ls st H Q := w_x (show decode kb14 48 = .ok (.goto 4, 3) from by decide +kernel) rfl
theorem m14_51 : M14 51 ls st H Q = M14 52 ls (.int 0 :: st) H Q := w_con (show decode kb14 51 = .ok (.iconst 0, 1) from by decide +kernel) rfl (by decide)
theorem m14_52  : M14 52 ls (.int v :: .int j :: .ref ((b + 1) + 9) :: st) (put (b + 1) pre s A post) Q = (inB j (A 8) ∧ M14 53 ls st (put (b + 1) pre s (ou A 8 (setA (A 8) j v)) post) Q) := w_ist (show decode kb14 52 = .ok (.iastore, 1) from by decide +kernel) rfl put_a8 (by omega) rfl put_w8
theorem m14_53 : M14 53 [l0, .val (.int v), l2, l3] st H Q = M14 56 [l0, .val (.int (v + 1)), l2, l3] st H Q := w_iinc (show decode kb14 53 = .ok (.iinc 1 1, 3) from by decide +kernel) rfl (by decide) rfl
theorem m14_56 : M14 56 ls st H Q = M14 14 ls st H Q := w_x (show decode kb14 56 = .ok (.goto (-42), 3) from by decide +kernel) rfl
theorem m14_59 : M14 59 [.val (.ref r), l1, l2, l3] st H Q = M14 60 [.val (.ref r), l1, l2, l3] (.ref r :: st) H Q := w_x (show decode kb14 59 = .ok (.aload_n 0, 1) from by decide +kernel) rfl
theorem m14_60 : M14 60 ls (.ref (b + 1) :: st) (put (b + 1) pre s A post) Q = M14 63 ls (.int (s 5) :: st) (put (b + 1) pre s A post) Q := w_get (show decode kb14 60 = .ok (.getfield 77, 3) from by decide +kernel) gf_77 put_o rfl
theorem m14_63 : M14 63 ls st H Q = M14 64 ls (.int 1 :: st) H Q := w_con (show decode kb14 63 = .ok (.iconst 1, 1) from by decide +kernel) rfl (by decide)
theorem m14_64 : M14 64 ls (.int y :: .int x :: st) H Q = M14 65 ls (.int (x - y) :: st) H Q := w_x (show decode kb14 64 = .ok (.isub, 1) from by decide +kernel) rfl
theorem m14_65i : M14 65 [l0, .val (.int z), l2, l3] ((.int v) :: st) H Q = M14 66 [l0, .val (.int v), l2, l3] st H Q := w_st (i := 1) (p := isI) (show decode kb14 65 = .ok (.istore_n 1, 1) from by decide +kernel) rfl rfl rfl rfl rfl rfl
theorem m14_66 : M14 66 [l0, .val (.int v), l2, l3] st H Q = M14 67 [l0, .val (.int v), l2, l3] (.int v :: st) H Q := w_x (show decode kb14 66 = .ok (.iload_n 1, 1) from by decide +kernel) rfl
theorem m14_67 : M14 67 ls st H Q = M14 68 ls (.int 1 :: st) H Q := w_con (show decode kb14 67 = .ok (.iconst 1, 1) from by decide +kernel) rfl (by decide)
theorem m14_68 : M14 68 ls (.int y :: .int x :: st) H Q = if x < y then M14 110 ls st H Q else M14 71 ls st H Q := w_icmp (show decode kb14 68 = .ok (.if_icmp .lt 42, 3) from by decide +kernel) (i_lt x y) rfl
theorem m14_71 : M14 71 [.val (.ref r), l1, l2, l3] st H Q = M14 72 [.val (.ref r), l1, l2, l3] (.ref r :: st) H Q := w_x (show decode kb14 71 = .ok (.aload_n 0, 1) from by decide +kernel) rfl
theorem m14_72 : M14 72 ls (.ref (b + 1) :: st) (put (b + 1) pre s A post) Q = M14 75 ls (.ref ((b + 1) + 10) :: st) (put (b + 1) pre s A post) Q := w_get (show decode kb14 72 = .ok (.getfield 38, 3) from by decide +kernel) gf_38 put_o rfl
theorem m14_75 : M14 75 [l0, .val (.int v), l2, l3] st H Q = M14 76 [l0, .val (.int v), l2, l3] (.int v :: st) H Q := w_x (show decode kb14 75 = .ok (.iload_n 1, 1) from by decide +kernel) rfl
theorem m14_76  : M14 76 ls (.int j :: .ref ((b + 1) + 10) :: st) (put (b + 1) pre s A post) Q = (inB j (A 9) ∧ M14 77 ls (.int (getA (A 9) j) :: st) (put (b + 1) pre s A post) Q) := w_ild (show decode kb14 76 = .ok (.iaload, 1) from by decide +kernel) rfl put_a9
theorem m14_77u : M14 77 [l0, l1, .unset, l3] ((.int v) :: st) H Q = M14 78 [l0, l1, .val (.int v), l3] st H Q := w_st (i := 2) (p := isI) (show decode kb14 77 = .ok (.istore_n 2, 1) from by decide +kernel) rfl rfl rfl rfl rfl rfl
theorem m14_77i : M14 77 [l0, l1, .val (.int z), l3] ((.int v) :: st) H Q = M14 78 [l0, l1, .val (.int v), l3] st H Q := w_st (i := 2) (p := isI) (show decode kb14 77 = .ok (.istore_n 2, 1) from by decide +kernel) rfl rfl rfl rfl rfl rfl
theorem m14_77r : M14 77 [l0, l1, .val (.ref q), l3] ((.int v) :: st) H Q = M14 78 [l0, l1, .val (.int v), l3] st H Q := w_st (i := 2) (p := isI) (show decode kb14 77 = .ok (.istore_n 2, 1) from by decide +kernel) rfl rfl rfl rfl rfl rfl
theorem m14_77g (h : okS l2) : M14 77 [l0, l1, l2, l3] ((.int v) :: st) H Q = M14 78 [l0, l1, .val (.int v), l3] st H Q := by rcases h with rfl | ⟨z, rfl⟩ <;> first | exact m14_77u | exact m14_77i
theorem m14_78 : M14 78 [.val (.ref r), l1, l2, l3] st H Q = M14 79 [.val (.ref r), l1, l2, l3] (.ref r :: st) H Q := w_x (show decode kb14 78 = .ok (.aload_n 0, 1) from by decide +kernel) rfl
theorem m14_79 : M14 79 ls (.ref (b + 1) :: st) (put (b + 1) pre s A post) Q = M14 82 ls (.ref ((b + 1) + 5) :: st) (put (b + 1) pre s A post) Q := w_get (show decode kb14 79 = .ok (.getfield 22, 3) from by decide +kernel) gf_22 put_o rfl
theorem m14_82 : M14 82 [l0, l1, .val (.int v), l3] st H Q = M14 83 [l0, l1, .val (.int v), l3] (.int v :: st) H Q := w_x (show decode kb14 82 = .ok (.iload_n 2, 1) from by decide +kernel) rfl
theorem m14_83  : M14 83 ls (.int j :: .ref ((b + 1) + 5) :: st) (put (b + 1) pre s A post) Q = (inB j (A 4) ∧ M14 84 ls (.int (getA (A 4) j) :: st) (put (b + 1) pre s A post) Q) := w_ild (show decode kb14 83 = .ok (.iaload, 1) from by decide +kernel) rfl put_a4
theorem m14_84u : M14 84 [l0, l1, l2, .unset] ((.int v) :: st) H Q = M14 85 [l0, l1, l2, .val (.int v)] st H Q := w_st (i := 3) (p := isI) (show decode kb14 84 = .ok (.istore_n 3, 1) from by decide +kernel) rfl rfl rfl rfl rfl rfl
theorem m14_84i : M14 84 [l0, l1, l2, .val (.int z)] ((.int v) :: st) H Q = M14 85 [l0, l1, l2, .val (.int v)] st H Q := w_st (i := 3) (p := isI) (show decode kb14 84 = .ok (.istore_n 3, 1) from by decide +kernel) rfl rfl rfl rfl rfl rfl
theorem m14_84r : M14 84 [l0, l1, l2, .val (.ref q)] ((.int v) :: st) H Q = M14 85 [l0, l1, l2, .val (.int v)] st H Q := w_st (i := 3) (p := isI) (show decode kb14 84 = .ok (.istore_n 3, 1) from by decide +kernel) rfl rfl rfl rfl rfl rfl
theorem m14_84g (h : okS l3) : M14 84 [l0, l1, l2, l3] ((.int v) :: st) H Q = M14 85 [l0, l1, l2, .val (.int v)] st H Q := by rcases h with rfl | ⟨z, rfl⟩ <;> first | exact m14_84u | exact m14_84i
theorem m14_85 : M14 85 [l0, l1, l2, .val (.int v)] st H Q = M14 86 [l0, l1, l2, .val (.int v)] (.int v :: st) H Q := w_x (show decode kb14 85 = .ok (.iload_n 3, 1) from by decide +kernel) rfl
theorem m14_86 : M14 86 ls (.int x :: st) H Q = if x < 0 then M14 104 ls st H Q else M14 89 ls st H Q := w_if (show decode kb14 86 = .ok (.ifCond .lt 18, 3) from by decide +kernel) (z_lt x) rfl
theorem m14_89 : M14 89 [.val (.ref r), l1, l2, l3] st H Q = M14 90 [.val (.ref r), l1, l2, l3] (.ref r :: st) H Q := w_x (show decode kb14 89 = .ok (.aload_n 0, 1) from by decide +kernel) rfl
theorem m14_90 : M14 90 ls (.ref (b + 1) :: st) (put (b + 1) pre s A post) Q = M14 93 ls (.ref ((b + 1) + 9) :: st) (put (b + 1) pre s A post) Q := w_get (show decode kb14 90 = .ok (.getfield 35, 3) from by decide +kernel) gf_35 put_o rfl
theorem m14_93 : M14 93 [l0, l1, l2, .val (.int v)] st H Q = M14 94 [l0, l1, l2, .val (.int v)] (.int v :: st) H Q := w_x (show decode kb14 93 = .ok (.iload_n 3, 1) from by decide +kernel) rfl
theorem m14_94 : M14 94 ls (.int x :: .ref q :: st) H Q = M14 95 ls (.int x :: .ref q :: .int x :: .ref q :: st) H Q := w_x (show decode kb14 94 = .ok (.dup2, 1) from by decide +kernel) rfl
theorem m14_95  : M14 95 ls (.int j :: .ref ((b + 1) + 9) :: st) (put (b + 1) pre s A post) Q = (inB j (A 8) ∧ M14 96 ls (.int (getA (A 8) j) :: st) (put (b + 1) pre s A post) Q) := w_ild (show decode kb14 95 = .ok (.iaload, 1) from by decide +kernel) rfl put_a8
theorem m14_96 : M14 96 [.val (.ref r), l1, l2, l3] st H Q = M14 97 [.val (.ref r), l1, l2, l3] (.ref r :: st) H Q := w_x (show decode kb14 96 = .ok (.aload_n 0, 1) from by decide +kernel) rfl
theorem m14_97 : M14 97 ls (.ref (b + 1) :: st) (put (b + 1) pre s A post) Q = M14 100 ls (.ref ((b + 1) + 9) :: st) (put (b + 1) pre s A post) Q := w_get (show decode kb14 97 = .ok (.getfield 35, 3) from by decide +kernel) gf_35 put_o rfl
theorem m14_100 : M14 100 [l0, l1, .val (.int v), l3] st H Q = M14 101 [l0, l1, .val (.int v), l3] (.int v :: st) H Q := w_x (show decode kb14 100 = .ok (.iload_n 2, 1) from by decide +kernel) rfl
theorem m14_101  : M14 101 ls (.int j :: .ref ((b + 1) + 9) :: st) (put (b + 1) pre s A post) Q = (inB j (A 8) ∧ M14 102 ls (.int (getA (A 8) j) :: st) (put (b + 1) pre s A post) Q) := w_ild (show decode kb14 101 = .ok (.iaload, 1) from by decide +kernel) rfl put_a8
theorem m14_102 : M14 102 ls (.int y :: .int x :: st) H Q = M14 103 ls (.int (x + y) :: st) H Q := w_x (show decode kb14 102 = .ok (.iadd, 1) from by decide +kernel) rfl
theorem m14_103  : M14 103 ls (.int v :: .int j :: .ref ((b + 1) + 9) :: st) (put (b + 1) pre s A post) Q = (inB j (A 8) ∧ M14 104 ls st (put (b + 1) pre s (ou A 8 (setA (A 8) j v)) post) Q) := w_ist (show decode kb14 103 = .ok (.iastore, 1) from by decide +kernel) rfl put_a8 (by omega) rfl put_w8
theorem m14_104 : M14 104 [l0, .val (.int v), l2, l3] st H Q = M14 107 [l0, .val (.int (v + (-1))), l2, l3] st H Q := w_iinc (show decode kb14 104 = .ok (.iinc 1 (-1), 3) from by decide +kernel) rfl (by decide) rfl
theorem m14_107 : M14 107 ls st H Q = M14 66 ls st H Q := w_x (show decode kb14 107 = .ok (.goto (-41), 3) from by decide +kernel) rfl
theorem m14_110 : M14 110 [.val (.ref r), l1, l2, l3] st H Q = M14 111 [.val (.ref r), l1, l2, l3] (.ref r :: st) H Q := w_x (show decode kb14 110 = .ok (.aload_n 0, 1) from by decide +kernel) rfl
theorem m14_111 : M14 111 ls st H Q = M14 112 ls (.int 1 :: st) H Q := w_con (show decode kb14 111 = .ok (.iconst 1, 1) from by decide +kernel) rfl (by decide)
theorem pf14_92 : pfR tables_1 y14.cls y14.name 92 = some ("SuffixAutomat", 19, .boolean) := by decide +kernel
theorem m14_112 : M14 112 ls (.int v :: .ref (b + 1) :: st) (put (b + 1) pre s A post) Q = M14 115 ls st (put (b + 1) pre (ou s 8 (nar .boolean v)) A post) Q := w_put (show decode kb14 112 = .ok (.putfield 92, 3) from by decide +kernel) pf14_92 put_o (Nat.succ_le_succ (Nat.zero_le _)) (by show 19 < 20; omega) rfl put_s8
theorem m14_115 : M14 115 ls [] H Q = Q none H := w_vret (show decode kb14 115 = .ok (.return_, 1) from by decide +kernel) rfl
theorem m15_0 : M15 0 ls st H Q = M15 1 ls (.int 0 :: st) H Q := w_con (show decode kb15 0 = .ok (.iconst 0, 1) from by decide +kernel) rfl (by decide)
theorem m15_1u : M15 1 [l0, .unset, l2, l3] ((.int v) :: st) H Q = M15 2 [l0, .val (.int v), l2, l3] st H Q := w_st (i := 1) (p := isI) (show decode kb15 1 = .ok (.istore_n 1, 1) from by decide +kernel) rfl rfl rfl rfl rfl rfl
theorem m15_2 : M15 2 [l0, .val (.int v), l2, l3] st H Q = M15 3 [l0, .val (.int v), l2, l3] (.int v :: st) H Q := w_x (show decode kb15 2 = .ok (.iload_n 1, 1) from by decide +kernel) rfl
theorem m15_3 : M15 3 ls st H Q = M15 5 ls (.int 65 :: st) H Q := w_con (show decode kb15 3 = .ok (.bipush 65, 2) from by decide +kernel) rfl (by decide)
theorem m15_5 : M15 5 ls (.int y :: .int x :: st) H Q = if x < y then M15 8 ls st H Q else M15 21 ls st H Q := w_icmpN (show decode kb15 5 = .ok (.if_icmp .ge 16, 3) from by decide +kernel) (i_ge x y) rfl
theorem m15_8 : M15 8 [.val (.ref r), l1, l2, l3] st H Q = M15 9 [.val (.ref r), l1, l2, l3] (.ref r :: st) H Q := w_x (show decode kb15 8 = .ok (.aload_n 0, 1) from by decide +kernel) rfl
theorem m15_9 : M15 9 ls (.ref (b + 1) :: st) (put (b + 1) pre s A post) Q = M15 12 ls (.ref ((b + 1) + 11) :: st) (put (b + 1) pre s A post) Q := w_get (show decode kb15 9 = .ok (.getfield 41, 3) from by decide +kernel) gf_41 put_o rfl
theorem m15_12 : M15 12 [l0, .val (.int v), l2, l3] st H Q = M15 13 [l0, .val (.int v), l2, l3] (.int v :: st) H Q := w_x (show decode kb15 12 = .ok (.iload_n 1, 1) from by decide +kernel) rfl
theorem m15_13 : M15 13 ls st H Q = M15 14 ls (.int 0 :: st) H Q := w_con (show decode kb15 13 = .ok (.iconst 0, 1) from by decide +kernel) rfl (by decide)
theorem m15_14  : M15 14 ls (.int v :: .int j :: .ref ((b + 1) + 11) :: st) (put (b + 1) pre s A post) Q = (inB j (A 10) ∧ M15 15 ls st (put (b + 1) pre s (ou A 10 (setA (A 10) j v)) post) Q) := w_ist (show decode kb15 14 = .ok (.iastore, 1) from by decide +kernel) rfl put_a10 (by omega) rfl put_w10
theorem m15_15 : M15 15 [l0, .val (.int v), l2, l3] st H Q = M15 18 [l0, .val (.int (v + 1)), l2, l3] st H Q := w_iinc (show decode kb15 15 = .ok (.iinc 1 1, 3) from by decide +kernel) rfl (by decide) rfl
theorem m15_18 : M15 18 ls st H Q = M15 2 ls st H Q := w_x (show decode kb15 18 = .ok (.goto (-16), 3) from by decide +kernel) rfl
theorem m15_21 : M15 21 ls st H Q = M15 22 ls (.int 0 :: st) H Q := w_con (show decode kb15 21 = .ok (.iconst 0, 1) from by decide +kernel) rfl (by decide)
theorem m15_22i : M15 22 [l0, .val (.int z), l2, l3] ((.int v) :: st) H Q = M15 23 [l0, .val (.int v), l2, l3] st H Q := w_st (i := 1) (p := isI) (show decode kb15 22 = .ok (.istore_n 1, 1) from by decide +kernel) rfl rfl rfl rfl rfl rfl
theorem m15_23 : M15 23 [l0, .val (.int v), l2, l3] st H Q = M15 24 [l0, .val (.int v), l2, l3] (.int v :: st) H Q := w_x (show decode kb15 23 = .ok (.iload_n 1, 1) from by decide +kernel) rfl
theorem m15_24 : M15 24 [.val (.ref r), l1, l2, l3] st H Q = M15 25 [.val (.ref r), l1, l2, l3] (.ref r :: st) H Q := w_x (show decode kb15 24 = .ok (.aload_n 0, 1) from by decide +kernel) rfl
theorem m15_25 : M15 25 ls (.ref (b + 1) :: st) (put (b + 1) pre s A post) Q = M15 28 ls (.int (s 5) :: st) (put (b + 1) pre s A post) Q := w_get (show decode kb15 25 = .ok (.getfield 77, 3) from by decide +kernel) gf_77 put_o rfl
theorem m15_28 : M15 28 ls (.int y :: .int x :: st) H Q = if x < y then M15 31 ls st H Q else M15 59 ls st H Q := w_icmpN (show decode kb15 28 = .ok (.if_icmp .ge 31, 3) from by decide +kernel) (i_ge x y) rfl
theorem m15_31 : M15 31 [l0, .val (.int v), l2, l3] st H Q = M15 32 [l0, .val (.int v), l2, l3] (.int v :: st) H Q := w_x (show decode kb15 31 = .ok (.iload_n 1, 1) from by decide +kernel) rfl
theorem m15_32 : M15 32 ls st H Q = M15 35 ls (.int 128 :: st) H Q := w_con (show decode kb15 32 = .ok (.sipush 128, 3) from by decide +kernel) rfl (by decide)
theorem m15_35 : M15 35 ls (.int y :: .int x :: st) H Q = if x < y then M15 38 ls st H Q else M15 59 ls st H Q := w_icmpN (show decode kb15 35 = .ok (.if_icmp .ge 24, 3) from by decide +kernel) (i_ge x y) rfl
theorem m15_38 : M15 38 [.val (.ref r), l1, l2, l3] st H Q = M15 39 [.val (.ref r), l1, l2, l3] (.ref r :: st) H Q := w_x (show decode kb15 38 = .ok (.aload_n 0, 1) from by decide +kernel) rfl
theorem m15_39 : M15 39 ls (.ref (b + 1) :: st) (put (b + 1) pre s A post) Q = M15 42 ls (.ref ((b + 1) + 11) :: st) (put (b + 1) pre s A post) Q := w_get (show decode kb15 39 = .ok (.getfield 41, 3) from by decide +kernel) gf_41 put_o rfl
theorem m15_42 : M15 42 [.val (.ref r), l1, l2, l3] st H Q = M15 43 [.val (.ref r), l1, l2, l3] (.ref r :: st) H Q := w_x (show decode kb15 42 = .ok (.aload_n 0, 1) from by decide +kernel) rfl
theorem m15_43 : M15 43 ls (.ref (b + 1) :: st) (put (b + 1) pre s A post) Q = M15 46 ls (.ref ((b + 1) + 6) :: st) (put (b + 1) pre s A post) Q := w_get (show decode kb15 43 = .ok (.getfield 25, 3) from by decide +kernel) gf_25 put_o rfl
theorem m15_46 : M15 46 [l0, .val (.int v), l2, l3] st H Q = M15 47 [l0, .val (.int v), l2, l3] (.int v :: st) H Q := w_x (show decode kb15 46 = .ok (.iload_n 1, 1) from by decide +kernel) rfl
theorem m15_47  : M15 47 ls (.int j :: .ref ((b + 1) + 6) :: st) (put (b + 1) pre s A post) Q = (inB j (A 5) ∧ M15 48 ls (.int (getA (A 5) j) :: st) (put (b + 1) pre s A post) Q) := w_ild (show decode kb15 47 = .ok (.iaload, 1) from by decide +kernel) rfl put_a5
theorem m15_48 : M15 48 ls (.int x :: .ref q :: st) H Q = M15 49 ls (.int x :: .ref q :: .int x :: .ref q :: st) H Q := w_x (show decode kb15 48 = .ok (.dup2, 1) from by decide +kernel) rfl
theorem m15_49  : M15 49 ls (.int j :: .ref ((b + 1) + 11) :: st) (put (b + 1) pre s A post) Q = (inB j (A 10) ∧ M15 50 ls (.int (getA (A 10) j) :: st) (put (b + 1) pre s A post) Q) := w_ild (show decode kb15 49 = .ok (.iaload, 1) from by decide +kernel) rfl put_a10
theorem m15_50 : M15 50 ls st H Q = M15 51 ls (.int 1 :: st) H Q := w_con (show decode kb15 50 = .ok (.iconst 1, 1) from by decide +kernel) rfl (by decide)
theorem m15_51 : M15 51 ls (.int y :: .int x :: st) H Q = M15 52 ls (.int (x + y) :: st) H Q := w_x (show decode kb15 51 = .ok (.iadd, 1) from by decide +kernel) rfl
theorem m15_52  : M15 52 ls (.int v :: .int j :: .ref ((b + 1) + 11) :: st) (put (b + 1) pre s A post) Q = (inB j (A 10) ∧ M15 53 ls st (put (b + 1) pre s (ou A 10 (setA (A 10) j v)) post) Q) := w_ist (show decode kb15 52 = .ok (.iastore, 1) from by decide +kernel) rfl put_a10 (by omega) rfl put_w10
theorem m15_53 : M15 53 [l0, .val (.int v), l2, l3] st H Q = M15 56 [l0, .val (.int (v + 1)), l2, l3] st H Q := w_iinc (show decode kb15 53 = .ok (.iinc 1 1, 3) from by decide +kernel) rfl (by decide) rfl
theorem m15_56 : M15 56 ls st H Q = M15 23 ls st H Q := w_x (show decode kb15 56 = .ok (.goto (-33), 3) from by decide +kernel) rfl
theorem m15_59 : M15 59 ls st H Q = M15 60 ls (.int 1 :: st) H Q := w_con (show decode kb15 59 = .ok (.iconst 1, 1) from by decide +kernel) rfl (by decide)
theorem m15_60i : M15 60 [l0, .val (.int z), l2, l3] ((.int v) :: st) H Q = M15 61 [l0, .val (.int v), l2, l3] st H Q := w_st (i := 1) (p := isI) (show decode kb15 60 = .ok (.istore_n 1, 1) from by decide +kernel) rfl rfl rfl rfl rfl rfl
theorem m15_61 : M15 61 [l0, .val (.int v), l2, l3] st H Q = M15 62 [l0, .val (.int v), l2, l3] (.int v :: st) H Q := w_x (show decode kb15 61 = .ok (.iload_n 1, 1) from by decide +kernel) rfl
theorem m15_62 : M15 62 ls st H Q = M15 64 ls (.int 65 :: st) H Q := w_con (show decode kb15 62 = .ok (.bipush 65, 2) from by decide +kernel) rfl (by decide)
theorem m15_64 : M15 64 ls (.int y :: .int x :: st) H Q = if x < y then M15 67 ls st H Q else M15 90 ls st H Q := w_icmpN (show decode kb15 64 = .ok (.if_icmp .ge 26, 3) from by decide +kernel) (i_ge x y) rfl
theorem m15_67 : M15 67 [.val (.ref r), l1, l2, l3] st H Q = M15 68 [.val (.ref r), l1, l2, l3] (.ref r :: st) H Q := w_x (show decode kb15 67 = .ok (.aload_n 0, 1) from by decide +kernel) rfl
theorem m15_68 : M15 68 ls (.ref (b + 1) :: st) (put (b + 1) pre s A post) Q = M15 71 ls (.ref ((b + 1) + 11) :: st) (put (b + 1) pre s A post) Q := w_get (show decode kb15 68 = .ok (.getfield 41, 3) from by decide +kernel) gf_41 put_o rfl
theorem m15_71 : M15 71 [l0, .val (.int v), l2, l3] st H Q = M15 72 [l0, .val (.int v), l2, l3] (.int v :: st) H Q := w_x (show decode kb15 71 = .ok (.iload_n 1, 1) from by decide +kernel) rfl
theorem m15_72 : M15 72 ls (.int x :: .ref q :: st) H Q = M15 73 ls (.int x :: .ref q :: .int x :: .ref q :: st) H Q := w_x (show decode kb15 72 = .ok (.dup2, 1) from by decide +kernel) rfl
theorem m15_73  : M15 73 ls (.int j :: .ref ((b + 1) + 11) :: st) (put (b + 1) pre s A post) Q = (inB j (A 10) ∧ M15 74 ls (.int (getA (A 10) j) :: st) (put (b + 1) pre s A post) Q) := w_ild (show decode kb15 73 = .ok (.iaload, 1) from by decide +kernel) rfl put_a10
theorem m15_74 : M15 74 [.val (.ref r), l1, l2, l3] st H Q = M15 75 [.val (.ref r), l1, l2, l3] (.ref r :: st) H Q := w_x (show decode kb15 74 = .ok (.aload_n 0, 1) from by decide +kernel) rfl
theorem m15_75 : M15 75 ls (.ref (b + 1) :: st) (put (b + 1) pre s A post) Q = M15 78 ls (.ref ((b + 1) + 11) :: st) (put (b + 1) pre s A post) Q := w_get (show decode kb15 75 = .ok (.getfield 41, 3) from by decide +kernel) gf_41 put_o rfl
theorem m15_78 : M15 78 [l0, .val (.int v), l2, l3] st H Q = M15 79 [l0, .val (.int v), l2, l3] (.int v :: st) H Q := w_x (show decode kb15 78 = .ok (.iload_n 1, 1) from by decide +kernel) rfl
theorem m15_79 : M15 79 ls st H Q = M15 80 ls (.int 1 :: st) H Q := w_con (show decode kb15 79 = .ok (.iconst 1, 1) from by decide +kernel) rfl (by decide)
theorem m15_80 : M15 80 ls (.int y :: .int x :: st) H Q = M15 81 ls (.int (x - y) :: st) H Q := w_x (show decode kb15 80 = .ok (.isub, 1) from by decide +kernel) rfl
theorem m15_81  : M15 81 ls (.int j :: .ref ((b + 1) + 11) :: st) (put (b + 1) pre s A post) Q = (inB j (A 10) ∧ M15 82 ls (.int (getA (A 10) j) :: st) (put (b + 1) pre s A post) Q) := w_ild (show decode kb15 81 = .ok (.iaload, 1) from by decide +kernel) rfl put_a10
theorem m15_82 : M15 82 ls (.int y :: .int x :: st) H Q = M15 83 ls (.int (x + y) :: st) H Q := w_x (show decode kb15 82 = .ok (.iadd, 1) from by decide +kernel) rfl
theorem m15_83  : M15 83 ls (.int v :: .int j :: .ref ((b + 1) + 11) :: st) (put (b + 1) pre s A post) Q = (inB j (A 10) ∧ M15 84 ls st (put (b + 1) pre s (ou A 10 (setA (A 10) j v)) post) Q) := w_ist (show decode kb15 83 = .ok (.iastore, 1) from by decide +kernel) rfl put_a10 (by omega) rfl put_w10
theorem m15_84 : M15 84 [l0, .val (.int v), l2, l3] st H Q = M15 87 [l0, .val (.int (v + 1)), l2, l3] st H Q := w_iinc (show decode kb15 84 = .ok (.iinc 1 1, 3) from by decide +kernel) rfl (by decide) rfl
theorem m15_87 : M15 87 ls st H Q = M15 61 ls st H Q := w_x (show decode kb15 87 = .ok (.goto (-26), 3) from by decide +kernel) rfl
theorem m15_90 : M15 90 [.val (.ref r), l1, l2, l3] st H Q = M15 91 [.val (.ref r), l1, l2, l3] (.ref r :: st) H Q := w_x (show decode kb15 90 = .ok (.aload_n 0, 1) from by decide +kernel) rfl
theorem m15_91 : M15 91 ls (.ref (b + 1) :: st) (put (b + 1) pre s A post) Q = M15 94 ls (.int (s 5) :: st) (put (b + 1) pre s A post) Q := w_get (show decode kb15 91 = .ok (.getfield 77, 3) from by decide +kernel) gf_77 put_o rfl
theorem m15_94 : M15 94 ls st H Q = M15 95 ls (.int 1 :: st) H Q := w_con (show decode kb15 94 = .ok (.iconst 1, 1) from by decide +kernel) rfl (by decide)
theorem m15_95 : M15 95 ls (.int y :: .int x :: st) H Q = M15 96 ls (.int (x - y) :: st) H Q := w_x (show decode kb15 95 = .ok (.isub, 1) from by decide +kernel) rfl
theorem m15_96i : M15 96 [l0, .val (.int z), l2, l3] ((.int v) :: st) H Q = M15 97 [l0, .val (.int v), l2, l3] st H Q := w_st (i := 1) (p := isI) (show decode kb15 96 = .ok (.istore_n 1, 1) from by decide +kernel) rfl rfl rfl rfl rfl rfl
theorem m15_97 : M15 97 [l0, .val (.int v), l2, l3] st H Q = M15 98 [l0, .val (.int v), l2, l3] (.int v :: st) H Q := w_x (show decode kb15 97 = .ok (.iload_n 1, 1) from by decide +kernel) rfl
theorem m15_98 : M15 98 ls (.int x :: st) H Q = if x < 0 then M15 149 ls st H Q else M15 101 ls st H Q := w_if (show decode kb15 98 = .ok (.ifCond .lt 51, 3) from by decide +kernel) (z_lt x) rfl
theorem m15_101 : M15 101 [.val (.ref r), l1, l2, l3] st H Q = M15 102 [.val (.ref r), l1, l2, l3] (.ref r :: st) H Q := w_x (show decode kb15 101 = .ok (.aload_n 0, 1) from by decide +kernel) rfl
theorem m15_102 : M15 102 ls (.ref (b + 1) :: st) (put (b + 1) pre s A post) Q = M15 105 ls (.ref ((b + 1) + 6) :: st) (put (b + 1) pre s A post) Q := w_get (show decode kb15 102 = .ok (.getfield 25, 3) from by decide +kernel) gf_25 put_o rfl
theorem m15_105 : M15 105 [l0, .val (.int v), l2, l3] st H Q = M15 106 [l0, .val (.int v), l2, l3] (.int v :: st) H Q := w_x (show decode kb15 105 = .ok (.iload_n 1, 1) from by decide +kernel) rfl
theorem m15_106  : M15 106 ls (.int j :: .ref ((b + 1) + 6) :: st) (put (b + 1) pre s A post) Q = (inB j (A 5) ∧ M15 107 ls (.int (getA (A 5) j) :: st) (put (b + 1) pre s A post) Q) := w_ild (show decode kb15 106 = .ok (.iaload, 1) from by decide +kernel) rfl put_a5
theorem m15_107u : M15 107 [l0, l1, .unset, l3] ((.int v) :: st) H Q = M15 108 [l0, l1, .val (.int v), l3] st H Q := w_st (i := 2) (p := isI) (show decode kb15 107 = .ok (.istore_n 2, 1) from by decide +kernel) rfl rfl rfl rfl rfl rfl
theorem m15_107i : M15 107 [l0, l1, .val (.int z), l3] ((.int v) :: st) H Q = M15 108 [l0, l1, .val (.int v), l3] st H Q := w_st (i := 2) (p := isI) (show decode kb15 107 = .ok (.istore_n 2, 1) from by decide +kernel) rfl rfl rfl rfl rfl rfl
theorem m15_107r : M15 107 [l0, l1, .val (.ref q), l3] ((.int v) :: st) H Q = M15 108 [l0, l1, .val (.int v), l3] st H Q := w_st (i := 2) (p := isI) (show decode kb15 107 = .ok (.istore_n 2, 1) from by decide +kernel) rfl rfl rfl rfl rfl rfl
theorem m15_107g (h : okS l2) : M15 107 [l0, l1, l2, l3] ((.int v) :: st) H Q = M15 108 [l0, l1, .val (.int v), l3] st H Q := by rcases h with rfl | ⟨z, rfl⟩ <;> first | exact m15_107u | exact m15_107i
theorem m15_108 : M15 108 [.val (.ref r), l1, l2, l3] st H Q = M15 109 [.val (.ref r), l1, l2, l3] (.ref r :: st) H Q := w_x (show decode kb15 108 = .ok (.aload_n 0, 1) from by decide +kernel) rfl
theorem m15_109 : M15 109 ls (.ref (b + 1) :: st) (put (b + 1) pre s A post) Q = M15 112 ls (.ref ((b + 1) + 11) :: st) (put (b + 1) pre s A post) Q := w_get (show decode kb15 109 = .ok (.getfield 41, 3) from by decide +kernel) gf_41 put_o rfl
theorem m15_112 : M15 112 [l0, l1, .val (.int v), l3] st H Q = M15 113 [l0, l1, .val (.int v), l3] (.int v :: st) H Q := w_x (show decode kb15 112 = .ok (.iload_n 2, 1) from by decide +kernel) rfl
theorem m15_113 : M15 113 ls (.int x :: .ref q :: st) H Q = M15 114 ls (.int x :: .ref q :: .int x :: .ref q :: st) H Q := w_x (show decode kb15 113 = .ok (.dup2, 1) from by decide +kernel) rfl
theorem m15_114  : M15 114 ls (.int j :: .ref ((b + 1) + 11) :: st) (put (b + 1) pre s A post) Q = (inB j (A 10) ∧ M15 115 ls (.int (getA (A 10) j) :: st) (put (b + 1) pre s A post) Q) := w_ild (show decode kb15 114 = .ok (.iaload, 1) from by decide +kernel) rfl put_a10
theorem m15_115 : M15 115 ls st H Q = M15 116 ls (.int 1 :: st) H Q := w_con (show decode kb15 115 = .ok (.iconst 1, 1) from by decide +kernel) rfl (by decide)
theorem m15_116 : M15 116 ls (.int y :: .int x :: st) H Q = M15 117 ls (.int (x - y) :: st) H Q := w_x (show decode kb15 116 = .ok (.isub, 1) from by decide +kernel) rfl
theorem m15_117  : M15 117 ls (.int v :: .int j :: .ref ((b + 1) + 11) :: st) (put (b + 1) pre s A post) Q = (inB j (A 10) ∧ M15 118 ls st (put (b + 1) pre s (ou A 10 (setA (A 10) j v)) post) Q) := w_ist (show decode kb15 117 = .ok (.iastore, 1) from by decide +kernel) rfl put_a10 (by omega) rfl put_w10
theorem m15_118 : M15 118 [.val (.ref r), l1, l2, l3] st H Q = M15 119 [.val (.ref r), l1, l2, l3] (.ref r :: st) H Q := w_x (show decode kb15 118 = .ok (.aload_n 0, 1) from by decide +kernel) rfl
theorem m15_119 : M15 119 ls (.ref (b + 1) :: st) (put (b + 1) pre s A post) Q = M15 122 ls (.ref ((b + 1) + 11) :: st) (put (b + 1) pre s A post) Q := w_get (show decode kb15 119 = .ok (.getfield 41, 3) from by decide +kernel) gf_41 put_o rfl
theorem m15_122 : M15 122 [l0, l1, .val (.int v), l3] st H Q = M15 123 [l0, l1, .val (.int v), l3] (.int v :: st) H Q := w_x (show decode kb15 122 = .ok (.iload_n 2, 1) from by decide +kernel) rfl
theorem m15_123  : M15 123 ls (.int j :: .ref ((b + 1) + 11) :: st) (put (b + 1) pre s A post) Q = (inB j (A 10) ∧ M15 124 ls (.int (getA (A 10) j) :: st) (put (b + 1) pre s A post) Q) := w_ild (show decode kb15 123 = .ok (.iaload, 1) from by decide +kernel) rfl put_a10
theorem m15_124u : M15 124 [l0, l1, l2, .unset] ((.int v) :: st) H Q = M15 125 [l0, l1, l2, .val (.int v)] st H Q := w_st (i := 3) (p := isI) (show decode kb15 124 = .ok (.istore_n 3, 1) from by decide +kernel) rfl rfl rfl rfl rfl rfl
theorem m15_124i : M15 124 [l0, l1, l2, .val (.int z)] ((.int v) :: st) H Q = M15 125 [l0, l1, l2, .val (.int v)] st H Q := w_st (i := 3) (p := isI) (show decode kb15 124 = .ok (.istore_n 3, 1) from by decide +kernel) rfl rfl rfl rfl rfl rfl
theorem m15_124r : M15 124 [l0, l1, l2, .val (.ref q)] ((.int v) :: st) H Q = M15 125 [l0, l1, l2, .val (.int v)] st H Q := w_st (i := 3) (p := isI) (show decode kb15 124 = .ok (.istore_n 3, 1) from by decide +kernel) rfl rfl rfl rfl rfl rfl
theorem m15_124g (h : okS l3) : M15 124 [l0, l1, l2, l3] ((.int v) :: st) H Q = M15 125 [l0, l1, l2, .val (.int v)] st H Q := by rcases h with rfl | ⟨z, rfl⟩ <;> first | exact m15_124u | exact m15_124i
theorem m15_125 : M15 125 [l0, l1, l2, .val (.int v)] st H Q = M15 126 [l0, l1, l2, .val (.int v)] (.int v :: st) H Q := w_x (show decode kb15 125 = .ok (.iload_n 3, 1) from by decide +kernel) rfl
theorem m15_126 : M15 126 ls (.int x :: st) H Q = if x < 0 then M15 143 ls st H Q else M15 129 ls st H Q := w_if (show decode kb15 126 = .ok (.ifCond .lt 17, 3) from by decide +kernel) (z_lt x) rfl
theorem m15_129 : M15 129 [l0, l1, l2, .val (.int v)] st H Q = M15 130 [l0, l1, l2, .val (.int v)] (.int v :: st) H Q := w_x (show decode kb15 129 = .ok (.iload_n 3, 1) from by decide +kernel) rfl
theorem m15_130 : M15 130 ls st H Q = M15 133 ls (.int 128 :: st) H Q := w_con (show decode kb15 130 = .ok (.sipush 128, 3) from by decide +kernel) rfl (by decide)
theorem m15_133 : M15 133 ls (.int y :: .int x :: st) H Q = if x < y then M15 136 ls st H Q else M15 143 ls st H Q := w_icmpN (show decode kb15 133 = .ok (.if_icmp .ge 10, 3) from by decide +kernel) (i_ge x y) rfl
theorem m15_136 : M15 136 [.val (.ref r), l1, l2, l3] st H Q = M15 137 [.val (.ref r), l1, l2, l3] (.ref r :: st) H Q := w_x (show decode kb15 136 = .ok (.aload_n 0, 1) from by decide +kernel) rfl
theorem m15_137 : M15 137 ls (.ref (b + 1) :: st) (put (b + 1) pre s A post) Q = M15 140 ls (.ref ((b + 1) + 10) :: st) (put (b + 1) pre s A post) Q := w_get (show decode kb15 137 = .ok (.getfield 38, 3) from by decide +kernel) gf_38 put_o rfl
theorem m15_140 : M15 140 [l0, l1, l2, .val (.int v)] st H Q = M15 141 [l0, l1, l2, .val (.int v)] (.int v :: st) H Q := w_x (show decode kb15 140 = .ok (.iload_n 3, 1) from by decide +kernel) rfl
theorem m15_141 : M15 141 [l0, .val (.int v), l2, l3] st H Q = M15 142 [l0, .val (.int v), l2, l3] (.int v :: st) H Q := w_x (show decode kb15 141 = .ok (.iload_n 1, 1) from by decide +kernel) rfl
theorem m15_142  : M15 142 ls (.int v :: .int j :: .ref ((b + 1) + 10) :: st) (put (b + 1) pre s A post) Q = (inB j (A 9) ∧ M15 143 ls st (put (b + 1) pre s (ou A 9 (setA (A 9) j v)) post) Q) := w_ist (show decode kb15 142 = .ok (.iastore, 1) from by decide +kernel) rfl put_a9 (by omega) rfl put_w9
theorem m15_143 : M15 143 [l0, .val (.int v), l2, l3] st H Q = M15 146 [l0, .val (.int (v + (-1))), l2, l3] st H Q := w_iinc (show decode kb15 143 = .ok (.iinc 1 (-1), 3) from by decide +kernel) rfl (by decide) rfl
theorem m15_146 : M15 146 ls st H Q = M15 97 ls st H Q := w_x (show decode kb15 146 = .ok (.goto (-49), 3) from by decide +kernel) rfl
theorem m15_149 : M15 149 ls [] H Q = Q none H := w_vret (show decode kb15 149 = .ok (.return_, 1) from by decide +kernel) rfl
theorem m16_0 : M16 0 [.val (.ref r)] st H Q = M16 1 [.val (.ref r)] (.ref r :: st) H Q := w_x (show decode kb16 0 = .ok (.aload_n 0, 1) from by decide +kernel) rfl
theorem m16_1 : M16 1 ls st H Q = M16 2 ls (.int 0 :: st) H Q := w_con (show decode kb16 1 = .ok (.iconst 0, 1) from by decide +kernel) rfl (by decide)
theorem pf16_57 : pfR tables_1 y16.cls y16.name 57 = some ("SuffixAutomat", 15, .int) := by decide +kernel
theorem m16_2 : M16 2 ls (.int v :: .ref (b + 1) :: st) (put (b + 1) pre s A post) Q = M16 5 ls st (put (b + 1) pre (ou s 4 v) A post) Q := w_put (show decode kb16 2 = .ok (.putfield 57, 3) from by decide +kernel) pf16_57 put_o (Nat.succ_le_succ (Nat.zero_le _)) (by show 15 < 20; omega) rfl put_s4
theorem m16_5 : M16 5 ls [] H Q = Q none H := w_vret (show decode kb16 5 = .ok (.return_, 1) from by decide +kernel) rfl
theorem m17_0 : M17 0 [l0, .val (.int v)] st H Q = M17 1 [l0, .val (.int v)] (.int v :: st) H Q := w_x (show decode kb17 0 = .ok (.iload_n 1, 1) from by decide +kernel) rfl
theorem m17_1 : M17 1 ls (.int x :: st) H Q = if x < 0 then M17 12 ls st H Q else M17 4 ls st H Q := w_if (show decode kb17 1 = .ok (.ifCond .lt 11, 3) from by decide +kernel) (z_lt x) rfl
theorem m17_4 : M17 4 [l0, .val (.int v)] st H Q = M17 5 [l0, .val (.int v)] (.int v :: st) H Q := w_x (show decode kb17 4 = .ok (.iload_n 1, 1) from by decide +kernel) rfl
theorem m17_5 : M17 5 [.val (.ref r), l1] st H Q = M17 6 [.val (.ref r), l1] (.ref r :: st) H Q := w_x (show decode kb17 5 = .ok (.aload_n 0, 1) from by decide +kernel) rfl
theorem m17_6 : M17 6 ls (.ref (b + 1) :: st) (put (b + 1) pre s A post) Q = M17 9 ls (.int (s 0) :: st) (put (b + 1) pre s A post) Q := w_get (show decode kb17 6 = .ok (.getfield 44, 3) from by decide +kernel) gf_44 put_o rfl
theorem m17_9 : M17 9 ls (.int y :: .int x :: st) H Q = if x < y then M17 14 ls st H Q else M17 12 ls st H Q := w_icmp (show decode kb17 9 = .ok (.if_icmp .lt 5, 3) from by decide +kernel) (i_lt x y) rfl
theorem m17_12 : M17 12 ls st H Q = M17 13 ls (.int 0 :: st) H Q := w_con (show decode kb17 12 = .ok (.iconst 0, 1) from by decide +kernel) rfl (by decide)
theorem m17_13 : M17 13 ls (.int z :: st) H Q = Q (some (.int (nar .boolean z))) H := w_iretN (show decode kb17 13 = .ok (.ireturn, 1) from by decide +kernel) rfl (by simp)
theorem m17_14 : M17 14 [.val (.ref r), l1] st H Q = M17 15 [.val (.ref r), l1] (.ref r :: st) H Q := w_x (show decode kb17 14 = .ok (.aload_n 0, 1) from by decide +kernel) rfl
theorem m17_15 : M17 15 ls (.ref (b + 1) :: st) (put (b + 1) pre s A post) Q = M17 18 ls (.int (s 4) :: st) (put (b + 1) pre s A post) Q := w_get (show decode kb17 15 = .ok (.getfield 57, 3) from by decide +kernel) gf_57 put_o rfl
theorem m17_18 : M17 18 ls st H Q = M17 20 ls (.int 64 :: st) H Q := w_con (show decode kb17 18 = .ok (.bipush 64, 2) from by decide +kernel) rfl (by decide)
theorem m17_20 : M17 20 ls (.int y :: .int x :: st) H Q = if x < y then M17 25 ls st H Q else M17 23 ls st H Q := w_icmp (show decode kb17 20 = .ok (.if_icmp .lt 5, 3) from by decide +kernel) (i_lt x y) rfl
theorem m17_23 : M17 23 ls st H Q = M17 24 ls (.int 0 :: st) H Q := w_con (show decode kb17 23 = .ok (.iconst 0, 1) from by decide +kernel) rfl (by decide)
theorem m17_24 : M17 24 ls (.int z :: st) H Q = Q (some (.int (nar .boolean z))) H := w_iretN (show decode kb17 24 = .ok (.ireturn, 1) from by decide +kernel) rfl (by simp)
theorem m17_25 : M17 25 [.val (.ref r), l1] st H Q = M17 26 [.val (.ref r), l1] (.ref r :: st) H Q := w_x (show decode kb17 25 = .ok (.aload_n 0, 1) from by decide +kernel) rfl
theorem m17_26 : M17 26 ls (.ref (b + 1) :: st) (put (b + 1) pre s A post) Q = M17 29 ls (.ref ((b + 1) + 3) :: st) (put (b + 1) pre s A post) Q := w_get (show decode kb17 26 = .ok (.getfield 16, 3) from by decide +kernel) gf_16 put_o rfl
theorem m17_29 : M17 29 [.val (.ref r), l1] st H Q = M17 30 [.val (.ref r), l1] (.ref r :: st) H Q := w_x (show decode kb17 29 = .ok (.aload_n 0, 1) from by decide +kernel) rfl
theorem m17_30 : M17 30 ls (.ref (b + 1) :: st) (put (b + 1) pre s A post) Q = M17 33 ls (.int (s 4) :: st) (put (b + 1) pre s A post) Q := w_get (show decode kb17 30 = .ok (.getfield 57, 3) from by decide +kernel) gf_57 put_o rfl
theorem m17_33 : M17 33 [l0, .val (.int v)] st H Q = M17 34 [l0, .val (.int v)] (.int v :: st) H Q := w_x (show decode kb17 33 = .ok (.iload_n 1, 1) from by decide +kernel) rfl
theorem m17_34  : M17 34 ls (.int v :: .int j :: .ref ((b + 1) + 3) :: st) (put (b + 1) pre s A post) Q = (inB j (A 2) ∧ M17 35 ls st (put (b + 1) pre s (ou A 2 (setA (A 2) j v)) post) Q) := w_ist (show decode kb17 34 = .ok (.iastore, 1) from by decide +kernel) rfl put_a2 (by omega) rfl put_w2
theorem m17_35 : M17 35 [.val (.ref r), l1] st H Q = M17 36 [.val (.ref r), l1] (.ref r :: st) H Q := w_x (show decode kb17 35 = .ok (.aload_n 0, 1) from by decide +kernel) rfl
theorem m17_36 : M17 36 ls ((.ref r) :: st) H Q = M17 37 ls ((.ref r) :: (.ref r) :: st) H Q := w_x (show decode kb17 36 = .ok (.dup, 1) from by decide +kernel) rfl
theorem m17_37 : M17 37 ls (.ref (b + 1) :: st) (put (b + 1) pre s A post) Q = M17 40 ls (.int (s 4) :: st) (put (b + 1) pre s A post) Q := w_get (show decode kb17 37 = .ok (.getfield 57, 3) from by decide +kernel) gf_57 put_o rfl
theorem m17_40 : M17 40 ls st H Q = M17 41 ls (.int 1 :: st) H Q := w_con (show decode kb17 40 = .ok (.iconst 1, 1) from by decide +kernel) rfl (by decide)
theorem m17_41 : M17 41 ls (.int y :: .int x :: st) H Q = M17 42 ls (.int (x + y) :: st) H Q := w_x (show decode kb17 41 = .ok (.iadd, 1) from by decide +kernel) rfl
theorem pf17_57 : pfR tables_1 y17.cls y17.name 57 = some ("SuffixAutomat", 15, .int) := by decide +kernel
theorem m17_42 : M17 42 ls (.int v :: .ref (b + 1) :: st) (put (b + 1) pre s A post) Q = M17 45 ls st (put (b + 1) pre (ou s 4 v) A post) Q := w_put (show decode kb17 42 = .ok (.putfield 57, 3) from by decide +kernel) pf17_57 put_o (Nat.succ_le_succ (Nat.zero_le _)) (by show 15 < 20; omega) rfl put_s4
theorem m17_45 : M17 45 ls st H Q = M17 46 ls (.int 1 :: st) H Q := w_con (show decode kb17 45 = .ok (.iconst 1, 1) from by decide +kernel) rfl (by decide)
theorem m17_46 : M17 46 ls (.int z :: st) H Q = Q (some (.int (nar .boolean z))) H := w_iretN (show decode kb17 46 = .ok (.ireturn, 1) from by decide +kernel) rfl (by simp)
theorem m18_0 : M18 0 [.val (.ref r)] st H Q = M18 1 [.val (.ref r)] (.ref r :: st) H Q := w_x (show decode kb18 0 = .ok (.aload_n 0, 1) from by decide +kernel) rfl
theorem m18_1 : M18 1 ls st H Q = M18 2 ls (.int 0 :: st) H Q := w_con (show decode kb18 1 = .ok (.iconst 0, 1) from by decide +kernel) rfl (by decide)
theorem pf18_54 : pfR tables_1 y18.cls y18.name 54 = some ("SuffixAutomat", 14, .int) := by decide +kernel
theorem m18_2 : M18 2 ls (.int v :: .ref (b + 1) :: st) (put (b + 1) pre s A post) Q = M18 5 ls st (put (b + 1) pre (ou s 3 v) A post) Q := w_put (show decode kb18 2 = .ok (.putfield 54, 3) from by decide +kernel) pf18_54 put_o (Nat.succ_le_succ (Nat.zero_le _)) (by show 14 < 20; omega) rfl put_s3
theorem m18_5 : M18 5 ls [] H Q = Q none H := w_vret (show decode kb18 5 = .ok (.return_, 1) from by decide +kernel) rfl
theorem m19_0 : M19 0 [.val (.ref r), l1, l2, l3, l4, l5, l6, l7, l8, l9] st H Q = M19 1 [.val (.ref r), l1, l2, l3, l4, l5, l6, l7, l8, l9] (.ref r :: st) H Q := w_x (show decode kb19 0 = .ok (.aload_n 0, 1) from by decide +kernel) rfl
theorem m19_1 : M19 1 ls (.ref (b + 1) :: st) (put (b + 1) pre s A post) Q = M19 4 ls (.int (s 5) :: st) (put (b + 1) pre s A post) Q := w_get (show decode kb19 1 = .ok (.getfield 77, 3) from by decide +kernel) gf_77 put_o rfl
theorem m19_4u : M19 4 [l0, l1, l2, l3, l4, .unset, l6, l7, l8, l9] ((.int v) :: st) H Q = M19 6 [l0, l1, l2, l3, l4, .val (.int v), l6, l7, l8, l9] st H Q := w_st (i := 5) (p := isI) (show decode kb19 4 = .ok (.istore 5, 2) from by decide +kernel) rfl rfl rfl rfl rfl rfl
theorem m19_6 : M19 6 [.val (.ref r), l1, l2, l3, l4, l5, l6, l7, l8, l9] st H Q = M19 7 [.val (.ref r), l1, l2, l3, l4, l5, l6, l7, l8, l9] (.ref r :: st) H Q := w_x (show decode kb19 6 = .ok (.aload_n 0, 1) from by decide +kernel) rfl
theorem m19_7 : M19 7 ls ((.ref r) :: st) H Q = M19 8 ls ((.ref r) :: (.ref r) :: st) H Q := w_x (show decode kb19 7 = .ok (.dup, 1) from by decide +kernel) rfl
theorem m19_8 : M19 8 ls (.ref (b + 1) :: st) (put (b + 1) pre s A post) Q = M19 11 ls (.int (s 5) :: st) (put (b + 1) pre s A post) Q := w_get (show decode kb19 8 = .ok (.getfield 77, 3) from by decide +kernel) gf_77 put_o rfl
theorem m19_11 : M19 11 ls st H Q = M19 12 ls (.int 1 :: st) H Q := w_con (show decode kb19 11 = .ok (.iconst 1, 1) from by decide +kernel) rfl (by decide)
theorem m19_12 : M19 12 ls (.int y :: .int x :: st) H Q = M19 13 ls (.int (x + y) :: st) H Q := w_x (show decode kb19 12 = .ok (.iadd, 1) from by decide +kernel) rfl
theorem pf19_77 : pfR tables_1 y19.cls y19.name 77 = some ("SuffixAutomat", 16, .int) := by decide +kernel
theorem m19_13 : M19 13 ls (.int v :: .ref (b + 1) :: st) (put (b + 1) pre s A post) Q = M19 16 ls st (put (b + 1) pre (ou s 5 v) A post) Q := w_put (show decode kb19 13 = .ok (.putfield 77, 3) from by decide +kernel) pf19_77 put_o (Nat.succ_le_succ (Nat.zero_le _)) (by show 16 < 20; omega) rfl put_s5
theorem m19_16 : M19 16 [.val (.ref r), l1, l2, l3, l4, l5, l6, l7, l8, l9] st H Q = M19 17 [.val (.ref r), l1, l2, l3, l4, l5, l6, l7, l8, l9] (.ref r :: st) H Q := w_x (show decode kb19 16 = .ok (.aload_n 0, 1) from by decide +kernel) rfl
theorem m19_17 : M19 17 [l0, l1, l2, l3, l4, .val (.int v), l6, l7, l8, l9] st H Q = M19 19 [l0, l1, l2, l3, l4, .val (.int v), l6, l7, l8, l9] (.int v :: st) H Q := w_x (show decode kb19 17 = .ok (.iload 5, 2) from by decide +kernel) rfl
theorem cr19_96 : vR tables_1 dn y19 96 = some (true, y2, prog_1_method_19_code, 4, none, 1, 0) := pR_of (cR_of (by decide +kernel) rc_2 dn_2 dn_19 (sig := ⟨[.int], none⟩) (by decide +kernel) (by decide +kernel) rfl rfl) (by decide +kernel) (by decide +kernel)
theorem m19_19 (a0 : Int32) : M19 19 ls [.int a0, .ref (b + 1)] (put (b + 1) pre s A post) Q = M2 0 [.val (.ref (b + 1)), .val (.int a0), .unset, .unset] [] (put (b + 1) pre s A post) (fun v H1 => M19 22 ls (v.toList ++ []) H1 Q) := w_virt (as := [.int a0]) (rest := []) (a := (b + 1)) (show decode kb19 19 = .ok (.invokevirtual 96, 3) from by decide +kernel) cr19_96 put_o rfl rfl (Nat.le_of_ble_eq_true rfl) (by show 2 ≤ 4; omega) rfl
theorem m19_22 : M19 22 [.val (.ref r), l1, l2, l3, l4, l5, l6, l7, l8, l9] st H Q = M19 23 [.val (.ref r), l1, l2, l3, l4, l5, l6, l7, l8, l9] (.ref r :: st) H Q := w_x (show decode kb19 22 = .ok (.aload_n 0, 1) from by decide +kernel) rfl
theorem m19_23 : M19 23 ls (.ref (b + 1) :: st) (put (b + 1) pre s A post) Q = M19 26 ls (.ref ((b + 1) + 6) :: st) (put (b + 1) pre s A post) Q := w_get (show decode kb19 23 = .ok (.getfield 25, 3) from by decide +kernel) gf_25 put_o rfl
theorem m19_26 : M19 26 [l0, l1, l2, l3, l4, .val (.int v), l6, l7, l8, l9] st H Q = M19 28 [l0, l1, l2, l3, l4, .val (.int v), l6, l7, l8, l9] (.int v :: st) H Q := w_x (show decode kb19 26 = .ok (.iload 5, 2) from by decide +kernel) rfl
theorem m19_28 : M19 28 [.val (.ref r), l1, l2, l3, l4, l5, l6, l7, l8, l9] st H Q = M19 29 [.val (.ref r), l1, l2, l3, l4, l5, l6, l7, l8, l9] (.ref r :: st) H Q := w_x (show decode kb19 28 = .ok (.aload_n 0, 1) from by decide +kernel) rfl
theorem m19_29 : M19 29 ls (.ref (b + 1) :: st) (put (b + 1) pre s A post) Q = M19 32 ls (.ref ((b + 1) + 6) :: st) (put (b + 1) pre s A post) Q := w_get (show decode kb19 29 = .ok (.getfield 25, 3) from by decide +kernel) gf_25 put_o rfl
theorem m19_32 : M19 32 [l0, .val (.int v), l2, l3, l4, l5, l6, l7, l8, l9] st H Q = M19 33 [l0, .val (.int v), l2, l3, l4, l5, l6, l7, l8, l9] (.int v :: st) H Q := w_x (show decode kb19 32 = .ok (.iload_n 1, 1) from by decide +kernel) rfl
theorem m19_33  : M19 33 ls (.int j :: .ref ((b + 1) + 6) :: st) (put (b + 1) pre s A post) Q = (inB j (A 5) ∧ M19 34 ls (.int (getA (A 5) j) :: st) (put (b + 1) pre s A post) Q) := w_ild (show decode kb19 33 = .ok (.iaload, 1) from by decide +kernel) rfl put_a5
theorem m19_34 : M19 34 ls st H Q = M19 35 ls (.int 1 :: st) H Q := w_con (show decode kb19 34 = .ok (.iconst 1, 1) from by decide +kernel) rfl (by decide)
theorem m19_35 : M19 35 ls (.int y :: .int x :: st) H Q = M19 36 ls (.int (x + y) :: st) H Q := w_x (show decode kb19 35 = .ok (.iadd, 1) from by decide +kernel) rfl
theorem m19_36  : M19 36 ls (.int v :: .int j :: .ref ((b + 1) + 6) :: st) (put (b + 1) pre s A post) Q = (inB j (A 5) ∧ M19 37 ls st (put (b + 1) pre s (ou A 5 (setA (A 5) j v)) post) Q) := w_ist (show decode kb19 36 = .ok (.iastore, 1) from by decide +kernel) rfl put_a5 (by omega) rfl put_w5
theorem m19_37 : M19 37 [.val (.ref r), l1, l2, l3, l4, l5, l6, l7, l8, l9] st H Q = M19 38 [.val (.ref r), l1, l2, l3, l4, l5, l6, l7, l8, l9] (.ref r :: st) H Q := w_x (show decode kb19 37 = .ok (.aload_n 0, 1) from by decide +kernel) rfl
theorem m19_38 : M19 38 ls (.ref (b + 1) :: st) (put (b + 1) pre s A post) Q = M19 41 ls (.ref ((b + 1) + 5) :: st) (put (b + 1) pre s A post) Q := w_get (show decode kb19 38 = .ok (.getfield 22, 3) from by decide +kernel) gf_22 put_o rfl
theorem m19_41 : M19 41 [l0, l1, l2, l3, l4, .val (.int v), l6, l7, l8, l9] st H Q = M19 43 [l0, l1, l2, l3, l4, .val (.int v), l6, l7, l8, l9] (.int v :: st) H Q := w_x (show decode kb19 41 = .ok (.iload 5, 2) from by decide +kernel) rfl
theorem m19_43 : M19 43 [.val (.ref r), l1, l2, l3, l4, l5, l6, l7, l8, l9] st H Q = M19 44 [.val (.ref r), l1, l2, l3, l4, l5, l6, l7, l8, l9] (.ref r :: st) H Q := w_x (show decode kb19 43 = .ok (.aload_n 0, 1) from by decide +kernel) rfl
theorem m19_44 : M19 44 ls (.ref (b + 1) :: st) (put (b + 1) pre s A post) Q = M19 47 ls (.ref ((b + 1) + 5) :: st) (put (b + 1) pre s A post) Q := w_get (show decode kb19 44 = .ok (.getfield 22, 3) from by decide +kernel) gf_22 put_o rfl
theorem m19_47 : M19 47 [l0, l1, l2, .val (.int v), l4, l5, l6, l7, l8, l9] st H Q = M19 48 [l0, l1, l2, .val (.int v), l4, l5, l6, l7, l8, l9] (.int v :: st) H Q := w_x (show decode kb19 47 = .ok (.iload_n 3, 1) from by decide +kernel) rfl
theorem m19_48  : M19 48 ls (.int j :: .ref ((b + 1) + 5) :: st) (put (b + 1) pre s A post) Q = (inB j (A 4) ∧ M19 49 ls (.int (getA (A 4) j) :: st) (put (b + 1) pre s A post) Q) := w_ild (show decode kb19 48 = .ok (.iaload, 1) from by decide +kernel) rfl put_a4
theorem m19_49  : M19 49 ls (.int v :: .int j :: .ref ((b + 1) + 5) :: st) (put (b + 1) pre s A post) Q = (inB j (A 4) ∧ M19 50 ls st (put (b + 1) pre s (ou A 4 (setA (A 4) j v)) post) Q) := w_ist (show decode kb19 49 = .ok (.iastore, 1) from by decide +kernel) rfl put_a4 (by omega) rfl put_w4
theorem m19_50 : M19 50 [.val (.ref r), l1, l2, l3, l4, l5, l6, l7, l8, l9] st H Q = M19 51 [.val (.ref r), l1, l2, l3, l4, l5, l6, l7, l8, l9] (.ref r :: st) H Q := w_x (show decode kb19 50 = .ok (.aload_n 0, 1) from by decide +kernel) rfl
theorem m19_51 : M19 51 ls (.ref (b + 1) :: st) (put (b + 1) pre s A post) Q = M19 54 ls (.ref ((b + 1) + 7) :: st) (put (b + 1) pre s A post) Q := w_get (show decode kb19 51 = .ok (.getfield 28, 3) from by decide +kernel) gf_28 put_o rfl
theorem m19_54 : M19 54 [l0, l1, l2, l3, l4, .val (.int v), l6, l7, l8, l9] st H Q = M19 56 [l0, l1, l2, l3, l4, .val (.int v), l6, l7, l8, l9] (.int v :: st) H Q := w_x (show decode kb19 54 = .ok (.iload 5, 2) from by decide +kernel) rfl
theorem m19_56 : M19 56 [.val (.ref r), l1, l2, l3, l4, l5, l6, l7, l8, l9] st H Q = M19 57 [.val (.ref r), l1, l2, l3, l4, l5, l6, l7, l8, l9] (.ref r :: st) H Q := w_x (show decode kb19 56 = .ok (.aload_n 0, 1) from by decide +kernel) rfl
theorem m19_57 : M19 57 ls (.ref (b + 1) :: st) (put (b + 1) pre s A post) Q = M19 60 ls (.ref ((b + 1) + 7) :: st) (put (b + 1) pre s A post) Q := w_get (show decode kb19 57 = .ok (.getfield 28, 3) from by decide +kernel) gf_28 put_o rfl
theorem m19_60 : M19 60 [l0, l1, l2, .val (.int v), l4, l5, l6, l7, l8, l9] st H Q = M19 61 [l0, l1, l2, .val (.int v), l4, l5, l6, l7, l8, l9] (.int v :: st) H Q := w_x (show decode kb19 60 = .ok (.iload_n 3, 1) from by decide +kernel) rfl
theorem m19_61  : M19 61 ls (.int j :: .ref ((b + 1) + 7) :: st) (put (b + 1) pre s A post) Q = (inB j (A 6) ∧ M19 62 ls (.int (getA (A 6) j) :: st) (put (b + 1) pre s A post) Q) := w_ild (show decode kb19 61 = .ok (.iaload, 1) from by decide +kernel) rfl put_a6
theorem m19_62  : M19 62 ls (.int v :: .int j :: .ref ((b + 1) + 7) :: st) (put (b + 1) pre s A post) Q = (inB j (A 6) ∧ M19 63 ls st (put (b + 1) pre s (ou A 6 (setA (A 6) j v)) post) Q) := w_ist (show decode kb19 62 = .ok (.iastore, 1) from by decide +kernel) rfl put_a6 (by omega) rfl put_w6
theorem m19_63 : M19 63 [.val (.ref r), l1, l2, l3, l4, l5, l6, l7, l8, l9] st H Q = M19 64 [.val (.ref r), l1, l2, l3, l4, l5, l6, l7, l8, l9] (.ref r :: st) H Q := w_x (show decode kb19 63 = .ok (.aload_n 0, 1) from by decide +kernel) rfl
theorem m19_64 : M19 64 ls (.ref (b + 1) :: st) (put (b + 1) pre s A post) Q = M19 67 ls (.ref ((b + 1) + 8) :: st) (put (b + 1) pre s A post) Q := w_get (show decode kb19 64 = .ok (.getfield 31, 3) from by decide +kernel) gf_31 put_o rfl
theorem m19_67 : M19 67 [l0, l1, l2, l3, l4, .val (.int v), l6, l7, l8, l9] st H Q = M19 69 [l0, l1, l2, l3, l4, .val (.int v), l6, l7, l8, l9] (.int v :: st) H Q := w_x (show decode kb19 67 = .ok (.iload 5, 2) from by decide +kernel) rfl
theorem m19_69 : M19 69 ls st H Q = M19 70 ls (.int 1 :: st) H Q := w_con (show decode kb19 69 = .ok (.iconst 1, 1) from by decide +kernel) rfl (by decide)
theorem m19_70  : M19 70 ls (.int v :: .int j :: .ref ((b + 1) + 8) :: st) (put (b + 1) pre s A post) Q = (inB j (A 7) ∧ M19 71 ls st (put (b + 1) pre s (ou A 7 (setA (A 7) j (nar .boolean v))) post) Q) := w_ist (show decode kb19 70 = .ok (.bastore, 1) from by decide +kernel) rfl put_a7 (by omega) rfl put_w7
theorem m19_71 : M19 71 [l0, l1, l2, .val (.int v), l4, l5, l6, l7, l8, l9] st H Q = M19 72 [l0, l1, l2, .val (.int v), l4, l5, l6, l7, l8, l9] (.int v :: st) H Q := w_x (show decode kb19 71 = .ok (.iload_n 3, 1) from by decide +kernel) rfl
theorem m19_72 : M19 72 ls st H Q = M19 74 ls (.int 8 :: st) H Q := w_con (show decode kb19 72 = .ok (.bipush 8, 2) from by decide +kernel) rfl (by decide)
theorem m19_74 : M19 74 ls (.int y :: .int x :: st) H Q = M19 75 ls (.int (x * y) :: st) H Q := w_x (show decode kb19 74 = .ok (.imul, 1) from by decide +kernel) rfl
theorem m19_75u : M19 75 [l0, l1, l2, l3, l4, l5, .unset, l7, l8, l9] ((.int v) :: st) H Q = M19 77 [l0, l1, l2, l3, l4, l5, .val (.int v), l7, l8, l9] st H Q := w_st (i := 6) (p := isI) (show decode kb19 75 = .ok (.istore 6, 2) from by decide +kernel) rfl rfl rfl rfl rfl rfl
theorem m19_77 : M19 77 [l0, l1, l2, l3, l4, .val (.int v), l6, l7, l8, l9] st H Q = M19 79 [l0, l1, l2, l3, l4, .val (.int v), l6, l7, l8, l9] (.int v :: st) H Q := w_x (show decode kb19 77 = .ok (.iload 5, 2) from by decide +kernel) rfl
theorem m19_79 : M19 79 ls st H Q = M19 81 ls (.int 8 :: st) H Q := w_con (show decode kb19 79 = .ok (.bipush 8, 2) from by decide +kernel) rfl (by decide)
theorem m19_81 : M19 81 ls (.int y :: .int x :: st) H Q = M19 82 ls (.int (x * y) :: st) H Q := w_x (show decode kb19 81 = .ok (.imul, 1) from by decide +kernel) rfl
theorem m19_82u : M19 82 [l0, l1, l2, l3, l4, l5, l6, .unset, l8, l9] ((.int v) :: st) H Q = M19 84 [l0, l1, l2, l3, l4, l5, l6, .val (.int v), l8, l9] st H Q := w_st (i := 7) (p := isI) (show decode kb19 82 = .ok (.istore 7, 2) from by decide +kernel) rfl rfl rfl rfl rfl rfl
theorem m19_84 : M19 84 ls st H Q = M19 85 ls (.int 0 :: st) H Q := w_con (show decode kb19 84 = .ok (.iconst 0, 1) from by decide +kernel) rfl (by decide)
theorem m19_85u : M19 85 [l0, l1, l2, l3, l4, l5, l6, l7, .unset, l9] ((.int v) :: st) H Q = M19 87 [l0, l1, l2, l3, l4, l5, l6, l7, .val (.int v), l9] st H Q := w_st (i := 8) (p := isI) (show decode kb19 85 = .ok (.istore 8, 2) from by decide +kernel) rfl rfl rfl rfl rfl rfl
theorem m19_87 : M19 87 [l0, l1, l2, l3, l4, l5, l6, l7, .val (.int v), l9] st H Q = M19 89 [l0, l1, l2, l3, l4, l5, l6, l7, .val (.int v), l9] (.int v :: st) H Q := w_x (show decode kb19 87 = .ok (.iload 8, 2) from by decide +kernel) rfl
theorem m19_89 : M19 89 ls st H Q = M19 91 ls (.int 8 :: st) H Q := w_con (show decode kb19 89 = .ok (.bipush 8, 2) from by decide +kernel) rfl (by decide)
theorem m19_91 : M19 91 ls (.int y :: .int x :: st) H Q = if x < y then M19 94 ls st H Q else M19 120 ls st H Q := w_icmpN (show decode kb19 91 = .ok (.if_icmp .ge 29, 3) from by decide +kernel) (i_ge x y) rfl
theorem m19_94 : M19 94 [.val (.ref r), l1, l2, l3, l4, l5, l6, l7, l8, l9] st H Q = M19 95 [.val (.ref r), l1, l2, l3, l4, l5, l6, l7, l8, l9] (.ref r :: st) H Q := w_x (show decode kb19 94 = .ok (.aload_n 0, 1) from by decide +kernel) rfl
theorem m19_95 : M19 95 ls (.ref (b + 1) :: st) (put (b + 1) pre s A post) Q = M19 98 ls (.ref ((b + 1) + 4) :: st) (put (b + 1) pre s A post) Q := w_get (show decode kb19 95 = .ok (.getfield 19, 3) from by decide +kernel) gf_19 put_o rfl
theorem m19_98 : M19 98 [l0, l1, l2, l3, l4, l5, l6, .val (.int v), l8, l9] st H Q = M19 100 [l0, l1, l2, l3, l4, l5, l6, .val (.int v), l8, l9] (.int v :: st) H Q := w_x (show decode kb19 98 = .ok (.iload 7, 2) from by decide +kernel) rfl
theorem m19_100 : M19 100 [l0, l1, l2, l3, l4, l5, l6, l7, .val (.int v), l9] st H Q = M19 102 [l0, l1, l2, l3, l4, l5, l6, l7, .val (.int v), l9] (.int v :: st) H Q := w_x (show decode kb19 100 = .ok (.iload 8, 2) from by decide +kernel) rfl
theorem m19_102 : M19 102 ls (.int y :: .int x :: st) H Q = M19 103 ls (.int (x + y) :: st) H Q := w_x (show decode kb19 102 = .ok (.iadd, 1) from by decide +kernel) rfl
theorem m19_103 : M19 103 [.val (.ref r), l1, l2, l3, l4, l5, l6, l7, l8, l9] st H Q = M19 104 [.val (.ref r), l1, l2, l3, l4, l5, l6, l7, l8, l9] (.ref r :: st) H Q := w_x (show decode kb19 103 = .ok (.aload_n 0, 1) from by decide +kernel) rfl
theorem m19_104 : M19 104 ls (.ref (b + 1) :: st) (put (b + 1) pre s A post) Q = M19 107 ls (.ref ((b + 1) + 4) :: st) (put (b + 1) pre s A post) Q := w_get (show decode kb19 104 = .ok (.getfield 19, 3) from by decide +kernel) gf_19 put_o rfl
theorem m19_107 : M19 107 [l0, l1, l2, l3, l4, l5, .val (.int v), l7, l8, l9] st H Q = M19 109 [l0, l1, l2, l3, l4, l5, .val (.int v), l7, l8, l9] (.int v :: st) H Q := w_x (show decode kb19 107 = .ok (.iload 6, 2) from by decide +kernel) rfl
theorem m19_109 : M19 109 [l0, l1, l2, l3, l4, l5, l6, l7, .val (.int v), l9] st H Q = M19 111 [l0, l1, l2, l3, l4, l5, l6, l7, .val (.int v), l9] (.int v :: st) H Q := w_x (show decode kb19 109 = .ok (.iload 8, 2) from by decide +kernel) rfl
theorem m19_111 : M19 111 ls (.int y :: .int x :: st) H Q = M19 112 ls (.int (x + y) :: st) H Q := w_x (show decode kb19 111 = .ok (.iadd, 1) from by decide +kernel) rfl
theorem m19_112  : M19 112 ls (.int j :: .ref ((b + 1) + 4) :: st) (put (b + 1) pre s A post) Q = (inB j (A 3) ∧ M19 113 ls (.int (getA (A 3) j) :: st) (put (b + 1) pre s A post) Q) := w_ild (show decode kb19 112 = .ok (.iaload, 1) from by decide +kernel) rfl put_a3
theorem m19_113  : M19 113 ls (.int v :: .int j :: .ref ((b + 1) + 4) :: st) (put (b + 1) pre s A post) Q = (inB j (A 3) ∧ M19 114 ls st (put (b + 1) pre s (ou A 3 (setA (A 3) j v)) post) Q) := w_ist (show decode kb19 113 = .ok (.iastore, 1) from by decide +kernel) rfl put_a3 (by omega) rfl put_w3
theorem m19_114 : M19 114 [l0, l1, l2, l3, l4, l5, l6, l7, .val (.int v), l9] st H Q = M19 117 [l0, l1, l2, l3, l4, l5, l6, l7, .val (.int (v + 1)), l9] st H Q := w_iinc (show decode kb19 114 = .ok (.iinc 8 1, 3) from by decide +kernel) rfl (by decide) rfl
theorem m19_117 : M19 117 ls st H Q = M19 87 ls st H Q := w_x (show decode kb19 117 = .ok (.goto (-30), 3) from by decide +kernel) rfl
theorem m19_120 : M19 120 [l0, .val (.int v), l2, l3, l4, l5, l6, l7, l8, l9] st H Q = M19 121 [l0, .val (.int v), l2, l3, l4, l5, l6, l7, l8, l9] (.int v :: st) H Q := w_x (show decode kb19 120 = .ok (.iload_n 1, 1) from by decide +kernel) rfl
theorem m19_121i : M19 121 [l0, l1, l2, l3, l4, l5, l6, l7, .val (.int z), l9] ((.int v) :: st) H Q = M19 123 [l0, l1, l2, l3, l4, l5, l6, l7, .val (.int v), l9] st H Q := w_st (i := 8) (p := isI) (show decode kb19 121 = .ok (.istore 8, 2) from by decide +kernel) rfl rfl rfl rfl rfl rfl
theorem m19_123 : M19 123 ls st H Q = M19 124 ls (.int 0 :: st) H Q := w_con (show decode kb19 123 = .ok (.iconst 0, 1) from by decide +kernel) rfl (by decide)
theorem m19_124u : M19 124 [l0, l1, l2, l3, l4, l5, l6, l7, l8, .unset] ((.int v) :: st) H Q = M19 126 [l0, l1, l2, l3, l4, l5, l6, l7, l8, .val (.int v)] st H Q := w_st (i := 9) (p := isI) (show decode kb19 124 = .ok (.istore 9, 2) from by decide +kernel) rfl rfl rfl rfl rfl rfl
theorem m19_126 : M19 126 [l0, l1, l2, l3, l4, l5, l6, l7, l8, .val (.int v)] st H Q = M19 128 [l0, l1, l2, l3, l4, l5, l6, l7, l8, .val (.int v)] (.int v :: st) H Q := w_x (show decode kb19 126 = .ok (.iload 9, 2) from by decide +kernel) rfl
theorem m19_128 : M19 128 ls st H Q = M19 131 ls (.int 128 :: st) H Q := w_con (show decode kb19 128 = .ok (.sipush 128, 3) from by decide +kernel) rfl (by decide)
theorem m19_131 : M19 131 ls (.int y :: .int x :: st) H Q = if x < y then M19 134 ls st H Q else M19 184 ls st H Q := w_icmpN (show decode kb19 131 = .ok (.if_icmp .ge 53, 3) from by decide +kernel) (i_ge x y) rfl
theorem m19_134 : M19 134 [l0, l1, l2, l3, l4, l5, l6, l7, .val (.int v), l9] st H Q = M19 136 [l0, l1, l2, l3, l4, l5, l6, l7, .val (.int v), l9] (.int v :: st) H Q := w_x (show decode kb19 134 = .ok (.iload 8, 2) from by decide +kernel) rfl
theorem m19_136 : M19 136 ls (.int x :: st) H Q = if x < 0 then M19 184 ls st H Q else M19 139 ls st H Q := w_if (show decode kb19 136 = .ok (.ifCond .lt 48, 3) from by decide +kernel) (z_lt x) rfl
theorem m19_139 : M19 139 [.val (.ref r), l1, l2, l3, l4, l5, l6, l7, l8, l9] st H Q = M19 140 [.val (.ref r), l1, l2, l3, l4, l5, l6, l7, l8, l9] (.ref r :: st) H Q := w_x (show decode kb19 139 = .ok (.aload_n 0, 1) from by decide +kernel) rfl
theorem m19_140 : M19 140 ls (.ref (b + 1) :: st) (put (b + 1) pre s A post) Q = M19 143 ls (.ref ((b + 1) + 4) :: st) (put (b + 1) pre s A post) Q := w_get (show decode kb19 140 = .ok (.getfield 19, 3) from by decide +kernel) gf_19 put_o rfl
theorem m19_143 : M19 143 [l0, l1, l2, l3, l4, l5, l6, l7, .val (.int v), l9] st H Q = M19 145 [l0, l1, l2, l3, l4, l5, l6, l7, .val (.int v), l9] (.int v :: st) H Q := w_x (show decode kb19 143 = .ok (.iload 8, 2) from by decide +kernel) rfl
theorem m19_145 : M19 145 ls st H Q = M19 147 ls (.int 8 :: st) H Q := w_con (show decode kb19 145 = .ok (.bipush 8, 2) from by decide +kernel) rfl (by decide)
theorem m19_147 : M19 147 ls (.int y :: .int x :: st) H Q = M19 148 ls (.int (x * y) :: st) H Q := w_x (show decode kb19 147 = .ok (.imul, 1) from by decide +kernel) rfl
theorem m19_148 : M19 148 [l0, l1, .val (.int v), l3, l4, l5, l6, l7, l8, l9] st H Q = M19 149 [l0, l1, .val (.int v), l3, l4, l5, l6, l7, l8, l9] (.int v :: st) H Q := w_x (show decode kb19 148 = .ok (.iload_n 2, 1) from by decide +kernel) rfl
theorem m19_149 : M19 149 ls (.int y :: .int x :: st) H Q = M19 150 ls (.int (x + y) :: st) H Q := w_x (show decode kb19 149 = .ok (.iadd, 1) from by decide +kernel) rfl
theorem m19_150  : M19 150 ls (.int j :: .ref ((b + 1) + 4) :: st) (put (b + 1) pre s A post) Q = (inB j (A 3) ∧ M19 151 ls (.int (getA (A 3) j) :: st) (put (b + 1) pre s A post) Q) := w_ild (show decode kb19 150 = .ok (.iaload, 1) from by decide +kernel) rfl put_a3
theorem m19_151 : M19 151 [l0, l1, l2, .val (.int v), l4, l5, l6, l7, l8, l9] st H Q = M19 152 [l0, l1, l2, .val (.int v), l4, l5, l6, l7, l8, l9] (.int v :: st) H Q := w_x (show decode kb19 151 = .ok (.iload_n 3, 1) from by decide +kernel) rfl
theorem m19_152 : M19 152 ls (.int y :: .int x :: st) H Q = if x = y then M19 155 ls st H Q else M19 184 ls st H Q := w_icmpN (show decode kb19 152 = .ok (.if_icmp .ne 32, 3) from by decide +kernel) (i_ne x y) rfl
theorem m19_155 : M19 155 [.val (.ref r), l1, l2, l3, l4, l5, l6, l7, l8, l9] st H Q = M19 156 [.val (.ref r), l1, l2, l3, l4, l5, l6, l7, l8, l9] (.ref r :: st) H Q := w_x (show decode kb19 155 = .ok (.aload_n 0, 1) from by decide +kernel) rfl
theorem m19_156 : M19 156 ls (.ref (b + 1) :: st) (put (b + 1) pre s A post) Q = M19 159 ls (.ref ((b + 1) + 4) :: st) (put (b + 1) pre s A post) Q := w_get (show decode kb19 156 = .ok (.getfield 19, 3) from by decide +kernel) gf_19 put_o rfl
theorem m19_159 : M19 159 [l0, l1, l2, l3, l4, l5, l6, l7, .val (.int v), l9] st H Q = M19 161 [l0, l1, l2, l3, l4, l5, l6, l7, .val (.int v), l9] (.int v :: st) H Q := w_x (show decode kb19 159 = .ok (.iload 8, 2) from by decide +kernel) rfl
theorem m19_161 : M19 161 ls st H Q = M19 163 ls (.int 8 :: st) H Q := w_con (show decode kb19 161 = .ok (.bipush 8, 2) from by decide +kernel) rfl (by decide)
theorem m19_163 : M19 163 ls (.int y :: .int x :: st) H Q = M19 164 ls (.int (x * y) :: st) H Q := w_x (show decode kb19 163 = .ok (.imul, 1) from by decide +kernel) rfl
theorem m19_164 : M19 164 [l0, l1, .val (.int v), l3, l4, l5, l6, l7, l8, l9] st H Q = M19 165 [l0, l1, .val (.int v), l3, l4, l5, l6, l7, l8, l9] (.int v :: st) H Q := w_x (show decode kb19 164 = .ok (.iload_n 2, 1) from by decide +kernel) rfl
theorem m19_165 : M19 165 ls (.int y :: .int x :: st) H Q = M19 166 ls (.int (x + y) :: st) H Q := w_x (show decode kb19 165 = .ok (.iadd, 1) from by decide +kernel) rfl
theorem m19_166 : M19 166 [l0, l1, l2, l3, l4, .val (.int v), l6, l7, l8, l9] st H Q = M19 168 [l0, l1, l2, l3, l4, .val (.int v), l6, l7, l8, l9] (.int v :: st) H Q := w_x (show decode kb19 166 = .ok (.iload 5, 2) from by decide +kernel) rfl
theorem m19_168  : M19 168 ls (.int v :: .int j :: .ref ((b + 1) + 4) :: st) (put (b + 1) pre s A post) Q = (inB j (A 3) ∧ M19 169 ls st (put (b + 1) pre s (ou A 3 (setA (A 3) j v)) post) Q) := w_ist (show decode kb19 168 = .ok (.iastore, 1) from by decide +kernel) rfl put_a3 (by omega) rfl put_w3
theorem m19_169 : M19 169 [.val (.ref r), l1, l2, l3, l4, l5, l6, l7, l8, l9] st H Q = M19 170 [.val (.ref r), l1, l2, l3, l4, l5, l6, l7, l8, l9] (.ref r :: st) H Q := w_x (show decode kb19 169 = .ok (.aload_n 0, 1) from by decide +kernel) rfl
theorem m19_170 : M19 170 ls (.ref (b + 1) :: st) (put (b + 1) pre s A post) Q = M19 173 ls (.ref ((b + 1) + 5) :: st) (put (b + 1) pre s A post) Q := w_get (show decode kb19 170 = .ok (.getfield 22, 3) from by decide +kernel) gf_22 put_o rfl
theorem m19_173 : M19 173 [l0, l1, l2, l3, l4, l5, l6, l7, .val (.int v), l9] st H Q = M19 175 [l0, l1, l2, l3, l4, l5, l6, l7, .val (.int v), l9] (.int v :: st) H Q := w_x (show decode kb19 173 = .ok (.iload 8, 2) from by decide +kernel) rfl
theorem m19_175  : M19 175 ls (.int j :: .ref ((b + 1) + 5) :: st) (put (b + 1) pre s A post) Q = (inB j (A 4) ∧ M19 176 ls (.int (getA (A 4) j) :: st) (put (b + 1) pre s A post) Q) := w_ild (show decode kb19 175 = .ok (.iaload, 1) from by decide +kernel) rfl put_a4
theorem m19_176i : M19 176 [l0, l1, l2, l3, l4, l5, l6, l7, .val (.int z), l9] ((.int v) :: st) H Q = M19 178 [l0, l1, l2, l3, l4, l5, l6, l7, .val (.int v), l9] st H Q := w_st (i := 8) (p := isI) (show decode kb19 176 = .ok (.istore 8, 2) from by decide +kernel) rfl rfl rfl rfl rfl rfl
theorem m19_178 : M19 178 [l0, l1, l2, l3, l4, l5, l6, l7, l8, .val (.int v)] st H Q = M19 181 [l0, l1, l2, l3, l4, l5, l6, l7, l8, .val (.int (v + 1))] st H Q := w_iinc (show decode kb19 178 = .ok (.iinc 9 1, 3) from by decide +kernel) rfl (by decide) rfl
theorem m19_181 : M19 181 ls st H Q = M19 126 ls st H Q := w_x (show decode kb19 181 = .ok (.goto (-55), 3) from by decide +kernel) rfl
theorem m19_184 : M19 184 [.val (.ref r), l1, l2, l3, l4, l5, l6, l7, l8, l9] st H Q = M19 185 [.val (.ref r), l1, l2, l3, l4, l5, l6, l7, l8, l9] (.ref r :: st) H Q := w_x (show decode kb19 184 = .ok (.aload_n 0, 1) from by decide +kernel) rfl
theorem m19_185 : M19 185 ls (.ref (b + 1) :: st) (put (b + 1) pre s A post) Q = M19 188 ls (.ref ((b + 1) + 5) :: st) (put (b + 1) pre s A post) Q := w_get (show decode kb19 185 = .ok (.getfield 22, 3) from by decide +kernel) gf_22 put_o rfl
theorem m19_188 : M19 188 [l0, l1, l2, .val (.int v), l4, l5, l6, l7, l8, l9] st H Q = M19 189 [l0, l1, l2, .val (.int v), l4, l5, l6, l7, l8, l9] (.int v :: st) H Q := w_x (show decode kb19 188 = .ok (.iload_n 3, 1) from by decide +kernel) rfl
theorem m19_189 : M19 189 [l0, l1, l2, l3, l4, .val (.int v), l6, l7, l8, l9] st H Q = M19 191 [l0, l1, l2, l3, l4, .val (.int v), l6, l7, l8, l9] (.int v :: st) H Q := w_x (show decode kb19 189 = .ok (.iload 5, 2) from by decide +kernel) rfl
theorem m19_191  : M19 191 ls (.int v :: .int j :: .ref ((b + 1) + 5) :: st) (put (b + 1) pre s A post) Q = (inB j (A 4) ∧ M19 192 ls st (put (b + 1) pre s (ou A 4 (setA (A 4) j v)) post) Q) := w_ist (show decode kb19 191 = .ok (.iastore, 1) from by decide +kernel) rfl put_a4 (by omega) rfl put_w4
theorem m19_192 : M19 192 [.val (.ref r), l1, l2, l3, l4, l5, l6, l7, l8, l9] st H Q = M19 193 [.val (.ref r), l1, l2, l3, l4, l5, l6, l7, l8, l9] (.ref r :: st) H Q := w_x (show decode kb19 192 = .ok (.aload_n 0, 1) from by decide +kernel) rfl
theorem m19_193 : M19 193 ls (.ref (b + 1) :: st) (put (b + 1) pre s A post) Q = M19 196 ls (.ref ((b + 1) + 5) :: st) (put (b + 1) pre s A post) Q := w_get (show decode kb19 193 = .ok (.getfield 22, 3) from by decide +kernel) gf_22 put_o rfl
theorem m19_196 : M19 196 [l0, l1, l2, l3, .val (.int v), l5, l6, l7, l8, l9] st H Q = M19 198 [l0, l1, l2, l3, .val (.int v), l5, l6, l7, l8, l9] (.int v :: st) H Q := w_x (show decode kb19 196 = .ok (.iload 4, 2) from by decide +kernel) rfl
theorem m19_198 : M19 198 [l0, l1, l2, l3, l4, .val (.int v), l6, l7, l8, l9] st H Q = M19 200 [l0, l1, l2, l3, l4, .val (.int v), l6, l7, l8, l9] (.int v :: st) H Q := w_x (show decode kb19 198 = .ok (.iload 5, 2) from by decide +kernel) rfl
theorem m19_200  : M19 200 ls (.int v :: .int j :: .ref ((b + 1) + 5) :: st) (put (b + 1) pre s A post) Q = (inB j (A 4) ∧ M19 201 ls st (put (b + 1) pre s (ou A 4 (setA (A 4) j v)) post) Q) := w_ist (show decode kb19 200 = .ok (.iastore, 1) from by decide +kernel) rfl put_a4 (by omega) rfl put_w4
theorem m19_201 : M19 201 ls [] H Q = Q none H := w_vret (show decode kb19 201 = .ok (.return_, 1) from by decide +kernel) rfl
theorem m20_0 : M20 0 [.val (.ref r)] st H Q = M20 1 [.val (.ref r)] (.ref r :: st) H Q := w_x (show decode kb20 0 = .ok (.aload_n 0, 1) from by decide +kernel) rfl
theorem m20_1 : M20 1 ls st H Q = M20 2 ls (.int 0 :: st) H Q := w_con (show decode kb20 1 = .ok (.iconst 0, 1) from by decide +kernel) rfl (by decide)
theorem pf20_51 : pfR tables_1 y20.cls y20.name 51 = some ("SuffixAutomat", 13, .int) := by decide +kernel
theorem m20_2 : M20 2 ls (.int v :: .ref (b + 1) :: st) (put (b + 1) pre s A post) Q = M20 5 ls st (put (b + 1) pre (ou s 2 v) A post) Q := w_put (show decode kb20 2 = .ok (.putfield 51, 3) from by decide +kernel) pf20_51 put_o (Nat.succ_le_succ (Nat.zero_le _)) (by show 13 < 20; omega) rfl put_s2
theorem m20_5 : M20 5 [.val (.ref r)] st H Q = M20 6 [.val (.ref r)] (.ref r :: st) H Q := w_x (show decode kb20 5 = .ok (.aload_n 0, 1) from by decide +kernel) rfl
theorem m20_6 : M20 6 ls st H Q = M20 7 ls (.int 0 :: st) H Q := w_con (show decode kb20 6 = .ok (.iconst 0, 1) from by decide +kernel) rfl (by decide)
theorem pf20_54 : pfR tables_1 y20.cls y20.name 54 = some ("SuffixAutomat", 14, .int) := by decide +kernel
theorem m20_7 : M20 7 ls (.int v :: .ref (b + 1) :: st) (put (b + 1) pre s A post) Q = M20 10 ls st (put (b + 1) pre (ou s 3 v) A post) Q := w_put (show decode kb20 7 = .ok (.putfield 54, 3) from by decide +kernel) pf20_54 put_o (Nat.succ_le_succ (Nat.zero_le _)) (by show 14 < 20; omega) rfl put_s3
theorem m20_10 : M20 10 [.val (.ref r)] st H Q = M20 11 [.val (.ref r)] (.ref r :: st) H Q := w_x (show decode kb20 10 = .ok (.aload_n 0, 1) from by decide +kernel) rfl
theorem m20_11 : M20 11 ls st H Q = M20 12 ls (.int 0 :: st) H Q := w_con (show decode kb20 11 = .ok (.iconst 0, 1) from by decide +kernel) rfl (by decide)
theorem pf20_57 : pfR tables_1 y20.cls y20.name 57 = some ("SuffixAutomat", 15, .int) := by decide +kernel
theorem m20_12 : M20 12 ls (.int v :: .ref (b + 1) :: st) (put (b + 1) pre s A post) Q = M20 15 ls st (put (b + 1) pre (ou s 4 v) A post) Q := w_put (show decode kb20 12 = .ok (.putfield 57, 3) from by decide +kernel) pf20_57 put_o (Nat.succ_le_succ (Nat.zero_le _)) (by show 15 < 20; omega) rfl put_s4
theorem m20_15 : M20 15 [.val (.ref r)] st H Q = M20 16 [.val (.ref r)] (.ref r :: st) H Q := w_x (show decode kb20 15 = .ok (.aload_n 0, 1) from by decide +kernel) rfl
theorem cr20_60 : vR tables_1 dn y20 60 = some (true, y1, prog_1_method_18_code, 1, none, 0, 0) := pR_of (cR_of (by decide +kernel) rc_1 dn_1 dn_20 (sig := ⟨[], none⟩) (by decide +kernel) (by decide +kernel) rfl rfl) (by decide +kernel) (by decide +kernel)
theorem m20_16 : M20 16 ls [.ref (b + 1)] (put (b + 1) pre s A post) Q = M1 0 [.val (.ref (b + 1))] [] (put (b + 1) pre s A post) (fun v H1 => M20 19 ls (v.toList ++ []) H1 Q) := w_virt (as := []) (rest := []) (a := (b + 1)) (show decode kb20 16 = .ok (.invokevirtual 60, 3) from by decide +kernel) cr20_60 put_o rfl rfl (Nat.le_of_ble_eq_true rfl) (by show 1 ≤ 1; omega) rfl
theorem m20_19 : M20 19 ls [] H Q = Q none H := w_vret (show decode kb20 19 = .ok (.return_, 1) from by decide +kernel) rfl
theorem m21_0 : M21 0 [l0, .val (.int v)] st H Q = M21 1 [l0, .val (.int v)] (.int v :: st) H Q := w_x (show decode kb21 0 = .ok (.iload_n 1, 1) from by decide +kernel) rfl
theorem m21_1 : M21 1 [.val (.ref r), l1] st H Q = M21 2 [.val (.ref r), l1] (.ref r :: st) H Q := w_x (show decode kb21 1 = .ok (.aload_n 0, 1) from by decide +kernel) rfl
theorem m21_2 : M21 2 ls (.ref 0 :: st) ((.array .int, sc.map Value.int) :: R) Q = M21 3 ls (.int sc.length.toInt32 :: st) ((.array .int, sc.map Value.int) :: R) Q := by exact (w_len (show decode kb21 2 = .ok (.arraylength, 1) from by decide +kernel) rfl).trans (by rw [List.length_map]; rfl)
theorem m21_2p : M21 2 ls (.ref 0 :: st) (put (b + 1) ((.array .int, sc.map Value.int) :: pre) s A post) Q = M21 3 ls (.int sc.length.toInt32 :: st) (put (b + 1) ((.array .int, sc.map Value.int) :: pre) s A post) Q := by exact (w_len (show decode kb21 2 = .ok (.arraylength, 1) from by decide +kernel) rfl).trans (by rw [List.length_map]; rfl)
theorem m21_3 : M21 3 ls (.int y :: .int x :: st) H Q = if x < y then M21 6 ls st H Q else M21 12 ls st H Q := w_icmpN (show decode kb21 3 = .ok (.if_icmp .ge 9, 3) from by decide +kernel) (i_ge x y) rfl
theorem m21_6 : M21 6 [.val (.ref r), l1] st H Q = M21 7 [.val (.ref r), l1] (.ref r :: st) H Q := w_x (show decode kb21 6 = .ok (.aload_n 0, 1) from by decide +kernel) rfl
theorem m21_7 : M21 7 [l0, .val (.int v)] st H Q = M21 8 [l0, .val (.int v)] (.int v :: st) H Q := w_x (show decode kb21 7 = .ok (.iload_n 1, 1) from by decide +kernel) rfl
theorem m21_8 : M21 8 ls (.int j :: .ref 0 :: st) ((.array .int, sc.map Value.int) :: R) Q = (inB j sc ∧ M21 9 ls (.int (getA sc j) :: st) ((.array .int, sc.map Value.int) :: R) Q) := w_ild (show decode kb21 8 = .ok (.iaload, 1) from by decide +kernel) rfl rfl
theorem m21_8p : M21 8 ls (.int j :: .ref 0 :: st) (put (b + 1) ((.array .int, sc.map Value.int) :: pre) s A post) Q = (inB j sc ∧ M21 9 ls (.int (getA sc j) :: st) (put (b + 1) ((.array .int, sc.map Value.int) :: pre) s A post) Q) := w_ild (show decode kb21 8 = .ok (.iaload, 1) from by decide +kernel) rfl rfl
theorem m21_9 : M21 9 ls st H Q = M21 13 ls st H Q := w_x (show decode kb21 9 = .ok (.goto 4, 3) from by decide +kernel) rfl
theorem m21_12 : M21 12 ls st H Q = M21 13 ls (.int 0 :: st) H Q := w_con (show decode kb21 12 = .ok (.iconst 0, 1) from by decide +kernel) rfl (by decide)
theorem m21_13 : M21 13 ls (.int z :: st) H Q = Q (some (.int z)) H := w_iret (show decode kb21 13 = .ok (.ireturn, 1) from by decide +kernel) rfl
theorem m22_0 : M22 0 [.val (.int v), l1, l2] st H Q = M22 1 [.val (.int v), l1, l2] (.int v :: st) H Q := w_x (show decode kb22 0 = .ok (.iload_n 0, 1) from by decide +kernel) rfl
theorem m22_1 : M22 1 [l0, .val (.int v), l2] st H Q = M22 2 [l0, .val (.int v), l2] (.int v :: st) H Q := w_x (show decode kb22 1 = .ok (.iload_n 1, 1) from by decide +kernel) rfl
theorem m22_2 : M22 2 ls (.int y :: .int x :: st) H Q = (y ≠ 0 ∧ M22 3 ls (.int (x % y) :: st) H Q) := w_div (f := fun x y => x % y) (show decode kb22 2 = .ok (.irem, 1) from by decide +kernel) (fun _ => rfl) rfl rfl
theorem m22_3u : M22 3 [l0, l1, .unset] ((.int v) :: st) H Q = M22 4 [l0, l1, .val (.int v)] st H Q := w_st (i := 2) (p := isI) (show decode kb22 3 = .ok (.istore_n 2, 1) from by decide +kernel) rfl rfl rfl rfl rfl rfl
theorem m22_4 : M22 4 [l0, l1, .val (.int v)] st H Q = M22 5 [l0, l1, .val (.int v)] (.int v :: st) H Q := w_x (show decode kb22 4 = .ok (.iload_n 2, 1) from by decide +kernel) rfl
theorem m22_5 : M22 5 ls (.int x :: st) H Q = if x < 0 then M22 8 ls st H Q else M22 14 ls st H Q := w_ifN (show decode kb22 5 = .ok (.ifCond .ge 9, 3) from by decide +kernel) (z_ge x) rfl
theorem m22_8 : M22 8 [l0, l1, .val (.int v)] st H Q = M22 9 [l0, l1, .val (.int v)] (.int v :: st) H Q := w_x (show decode kb22 8 = .ok (.iload_n 2, 1) from by decide +kernel) rfl
theorem m22_9 : M22 9 [l0, .val (.int v), l2] st H Q = M22 10 [l0, .val (.int v), l2] (.int v :: st) H Q := w_x (show decode kb22 9 = .ok (.iload_n 1, 1) from by decide +kernel) rfl
theorem m22_10 : M22 10 ls (.int y :: .int x :: st) H Q = M22 11 ls (.int (x + y) :: st) H Q := w_x (show decode kb22 10 = .ok (.iadd, 1) from by decide +kernel) rfl
theorem m22_11 : M22 11 ls st H Q = M22 15 ls st H Q := w_x (show decode kb22 11 = .ok (.goto 4, 3) from by decide +kernel) rfl
theorem m22_14 : M22 14 [l0, l1, .val (.int v)] st H Q = M22 15 [l0, l1, .val (.int v)] (.int v :: st) H Q := w_x (show decode kb22 14 = .ok (.iload_n 2, 1) from by decide +kernel) rfl
theorem m22_15 : M22 15 ls (.int z :: st) H Q = Q (some (.int z)) H := w_iret (show decode kb22 15 = .ok (.ireturn, 1) from by decide +kernel) rfl
theorem m23_0 : M23 0 [.val (.int v)] st H Q = M23 1 [.val (.int v)] (.int v :: st) H Q := w_x (show decode kb23 0 = .ok (.iload_n 0, 1) from by decide +kernel) rfl
theorem m23_1 : M23 1 ls st H Q = M23 2 ls (.int 2 :: st) H Q := w_con (show decode kb23 1 = .ok (.iconst 2, 1) from by decide +kernel) rfl (by decide)
theorem m23_2 : M23 2 ls (.int y :: .int x :: st) H Q = if x < y then M23 5 ls st H Q else M23 9 ls st H Q := w_icmpN (show decode kb23 2 = .ok (.if_icmp .ge 7, 3) from by decide +kernel) (i_ge x y) rfl
theorem m23_5 : M23 5 ls st H Q = M23 6 ls (.int 2 :: st) H Q := w_con (show decode kb23 5 = .ok (.iconst 2, 1) from by decide +kernel) rfl (by decide)
theorem m23_6 : M23 6 ls st H Q = M23 21 ls st H Q := w_x (show decode kb23 6 = .ok (.goto 15, 3) from by decide +kernel) rfl
theorem m23_9 : M23 9 [.val (.int v)] st H Q = M23 10 [.val (.int v)] (.int v :: st) H Q := w_x (show decode kb23 9 = .ok (.iload_n 0, 1) from by decide +kernel) rfl
theorem m23_10 : M23 10 ls st H Q = M23 12 ls (.int 8 :: st) H Q := w_con (show decode kb23 10 = .ok (.bipush 8, 2) from by decide +kernel) rfl (by decide)
theorem m23_12 : M23 12 ls (.int y :: .int x :: st) H Q = if y < x then M23 15 ls st H Q else M23 20 ls st H Q := w_icmpN (show decode kb23 12 = .ok (.if_icmp .le 8, 3) from by decide +kernel) (i_le x y) rfl
theorem m23_15 : M23 15 ls st H Q = M23 17 ls (.int 8 :: st) H Q := w_con (show decode kb23 15 = .ok (.bipush 8, 2) from by decide +kernel) rfl (by decide)
theorem m23_17 : M23 17 ls st H Q = M23 21 ls st H Q := w_x (show decode kb23 17 = .ok (.goto 4, 3) from by decide +kernel) rfl
theorem m23_20 : M23 20 [.val (.int v)] st H Q = M23 21 [.val (.int v)] (.int v :: st) H Q := w_x (show decode kb23 20 = .ok (.iload_n 0, 1) from by decide +kernel) rfl
theorem m23_21 : M23 21 ls (.int z :: st) H Q = Q (some (.int z)) H := w_iret (show decode kb23 21 = .ok (.ireturn, 1) from by decide +kernel) rfl
theorem m24_0 : M24 0 [l0, l1, l2, l3, l4, l5, l6, l7, .val (.int v), l9, l10] st H Q = M24 2 [l0, l1, l2, l3, l4, l5, l6, l7, .val (.int v), l9, l10] (.int v :: st) H Q := w_x (show decode kb24 0 = .ok (.iload 8, 2) from by decide +kernel) rfl
theorem m24_2 : M24 2 ls st H Q = M24 4 ls (.int 16 :: st) H Q := w_con (show decode kb24 2 = .ok (.bipush 16, 2) from by decide +kernel) rfl (by decide)
theorem m24_4 : M24 4 ls (.int y :: .int x :: st) H Q = if x < y then M24 7 ls st H Q else M24 11 ls st H Q := w_icmpN (show decode kb24 4 = .ok (.if_icmp .ge 7, 3) from by decide +kernel) (i_ge x y) rfl
theorem m24_7 : M24 7 [.val (.long J1), l1, l2, l3, l4, l5, l6, l7, l8, l9, l10] st H Q = M24 8 [.val (.long J1), l1, l2, l3, l4, l5, l6, l7, l8, l9, l10] (.long J1 :: st) H Q := w_x (show decode kb24 7 = .ok (.lload_n 0, 1) from by decide +kernel) rfl
theorem m24_8 : M24 8 ls st H Q = M24 36 ls st H Q := w_x (show decode kb24 8 = .ok (.goto 28, 3) from by decide +kernel) rfl
theorem m24_11 : M24 11 [l0, l1, l2, l3, l4, l5, l6, l7, .val (.int v), l9, l10] st H Q = M24 13 [l0, l1, l2, l3, l4, l5, l6, l7, .val (.int v), l9, l10] (.int v :: st) H Q := w_x (show decode kb24 11 = .ok (.iload 8, 2) from by decide +kernel) rfl
theorem m24_13 : M24 13 ls st H Q = M24 15 ls (.int 32 :: st) H Q := w_con (show decode kb24 13 = .ok (.bipush 32, 2) from by decide +kernel) rfl (by decide)
theorem m24_15 : M24 15 ls (.int y :: .int x :: st) H Q = if x < y then M24 18 ls st H Q else M24 22 ls st H Q := w_icmpN (show decode kb24 15 = .ok (.if_icmp .ge 7, 3) from by decide +kernel) (i_ge x y) rfl
theorem m24_18 : M24 18 [l0, l1, .val (.long J1), l3, l4, l5, l6, l7, l8, l9, l10] st H Q = M24 19 [l0, l1, .val (.long J1), l3, l4, l5, l6, l7, l8, l9, l10] (.long J1 :: st) H Q := w_x (show decode kb24 18 = .ok (.lload_n 2, 1) from by decide +kernel) rfl
theorem m24_19 : M24 19 ls st H Q = M24 36 ls st H Q := w_x (show decode kb24 19 = .ok (.goto 17, 3) from by decide +kernel) rfl
theorem m24_22 : M24 22 [l0, l1, l2, l3, l4, l5, l6, l7, .val (.int v), l9, l10] st H Q = M24 24 [l0, l1, l2, l3, l4, l5, l6, l7, .val (.int v), l9, l10] (.int v :: st) H Q := w_x (show decode kb24 22 = .ok (.iload 8, 2) from by decide +kernel) rfl
theorem m24_24 : M24 24 ls st H Q = M24 26 ls (.int 48 :: st) H Q := w_con (show decode kb24 24 = .ok (.bipush 48, 2) from by decide +kernel) rfl (by decide)
theorem m24_26 : M24 26 ls (.int y :: .int x :: st) H Q = if x < y then M24 29 ls st H Q else M24 34 ls st H Q := w_icmpN (show decode kb24 26 = .ok (.if_icmp .ge 8, 3) from by decide +kernel) (i_ge x y) rfl
theorem m24_29 : M24 29 [l0, l1, l2, l3, .val (.long J1), l5, l6, l7, l8, l9, l10] st H Q = M24 31 [l0, l1, l2, l3, .val (.long J1), l5, l6, l7, l8, l9, l10] (.long J1 :: st) H Q := w_x (show decode kb24 29 = .ok (.lload 4, 2) from by decide +kernel) rfl
theorem m24_31 : M24 31 ls st H Q = M24 36 ls st H Q := w_x (show decode kb24 31 = .ok (.goto 5, 3) from by decide +kernel) rfl
theorem m24_34 : M24 34 [l0, l1, l2, l3, l4, l5, .val (.long J1), l7, l8, l9, l10] st H Q = M24 36 [l0, l1, l2, l3, l4, l5, .val (.long J1), l7, l8, l9, l10] (.long J1 :: st) H Q := w_x (show decode kb24 34 = .ok (.lload 6, 2) from by decide +kernel) rfl
theorem m24_36 : M24 36 [l0, l1, l2, l3, l4, l5, l6, l7, l8, .unset, .unset] (.long J1 :: st) H Q = M24 38 [l0, l1, l2, l3, l4, l5, l6, l7, l8, .val (.long J1), .second] st H Q := w_x (show decode kb24 36 = .ok (.lstore 9, 2) from by decide +kernel) rfl
theorem m24_38 : M24 38 [l0, l1, l2, l3, l4, l5, l6, l7, l8, .val (.long J1), l10] st H Q = M24 40 [l0, l1, l2, l3, l4, l5, l6, l7, l8, .val (.long J1), l10] (.long J1 :: st) H Q := w_x (show decode kb24 38 = .ok (.lload 9, 2) from by decide +kernel) rfl
theorem m24_40 : M24 40 ls st H Q = M24 41 ls (.int 3 :: st) H Q := w_con (show decode kb24 40 = .ok (.iconst 3, 1) from by decide +kernel) rfl (by decide)
theorem m24_41 : M24 41 [l0, l1, l2, l3, l4, l5, l6, l7, .val (.int v), l9, l10] st H Q = M24 43 [l0, l1, l2, l3, l4, l5, l6, l7, .val (.int v), l9, l10] (.int v :: st) H Q := w_x (show decode kb24 41 = .ok (.iload 8, 2) from by decide +kernel) rfl
theorem m24_43 : M24 43 ls st H Q = M24 45 ls (.int 15 :: st) H Q := w_con (show decode kb24 43 = .ok (.bipush 15, 2) from by decide +kernel) rfl (by decide)
theorem m24_45 : M24 45 ls (.int y :: .int x :: st) H Q = M24 46 ls (.int (x &&& y) :: st) H Q := w_x (show decode kb24 45 = .ok (.iand, 1) from by decide +kernel) rfl
theorem m24_46 : M24 46 ls (.int y :: .int x :: st) H Q = M24 47 ls (.int (x * y) :: st) H Q := w_x (show decode kb24 46 = .ok (.imul, 1) from by decide +kernel) rfl
theorem m24_47 : M24 47 ls (.int y :: .long J1 :: st) H Q = M24 48 ls (.long (XT.ushrL J1 y) :: st) H Q := w_x (show decode kb24 47 = .ok (.lushr, 1) from by decide +kernel) rfl
theorem m24_48 : M24 48 ls st H Q = M24 51 ls (.long 7 :: st) H Q := w_ldc2 (show decode kb24 48 = .ok (.ldc2_w 7, 3) from by decide +kernel) (by decide +kernel)
theorem m24_51 : M24 51 ls (.long J2 :: .long J1 :: st) H Q = M24 52 ls (.long (J1 &&& J2) :: st) H Q := w_x (show decode kb24 51 = .ok (.land, 1) from by decide +kernel) rfl
theorem m24_52 : M24 52 ls (.long J1 :: st) H Q = M24 53 ls (.int J1.toInt32 :: st) H Q := w_x (show decode kb24 52 = .ok (.l2i, 1) from by decide +kernel) rfl
theorem m24_53 : M24 53 ls (.int z :: st) H Q = Q (some (.int z)) H := w_iret (show decode kb24 53 = .ok (.ireturn, 1) from by decide +kernel) rfl
theorem m25_0 : M25 0 [.val (.ref r), l1, l2, l3, l4, l5, l6, l7, l8, l9, l10, l11, l12, l13, l14, l15, l16, l17, l18, l19, l20, l21, l22, l23] st H Q = M25 1 [.val (.ref r), l1, l2, l3, l4, l5, l6, l7, l8, l9, l10, l11, l12, l13, l14, l15, l16, l17, l18, l19, l20, l21, l22, l23] (.ref r :: st) H Q := w_x at_0 rfl
theorem m25_1 : M25 1 ls st H Q = M25 2 ls (.int 0 :: st) H Q := w_con at_1 rfl (by decide)
theorem cr25_9 : sR tables_1 dn y25 9 = some (y21, method_2_code, 2, (some .int), 2, 52) := sR_of (cR_of (by decide +kernel) rc_21 dn_21 dn_25 (sig := ⟨[.array .int, .int], some .int⟩) (by decide +kernel) (by decide +kernel) rfl rfl) (by decide +kernel)
theorem m25_2 (a0 : Nat) (a1 : Int32) : M25 2 ls [.int a1, .ref a0] H Q = M21 0 [.val (.ref a0), .val (.int a1)] [] H (fun v H1 => M25 5 ls (v.toList ++ []) H1 Q) := w_stat (as := [.int a1, .ref a0]) (rest := []) at_2 cr25_9 rfl (Nat.le_of_ble_eq_true rfl) (by show 2 ≤ 2; omega) rfl
theorem m25_5 : M25 5 ls st H Q = M25 7 ls (.int 10 :: st) H Q := w_con at_5 rfl (by decide)
theorem cr25_15 : sR tables_1 dn y25 15 = some (y22, method_3_code, 3, (some .int), 2, 51) := sR_of (cR_of (by decide +kernel) rc_22 dn_22 dn_25 (sig := ⟨[.int, .int], some .int⟩) (by decide +kernel) (by decide +kernel) rfl rfl) (by decide +kernel)
theorem m25_7 (a0 : Int32) (a1 : Int32) : M25 7 ls [.int a1, .int a0] H Q = M22 0 [.val (.int a0), .val (.int a1), .unset] [] H (fun v H1 => M25 10 ls (v.toList ++ []) H1 Q) := w_stat (as := [.int a1, .int a0]) (rest := []) at_7 cr25_15 rfl (Nat.le_of_ble_eq_true rfl) (by show 2 ≤ 3; omega) rfl
theorem m25_10u : M25 10 [l0, .unset, l2, l3, l4, l5, l6, l7, l8, l9, l10, l11, l12, l13, l14, l15, l16, l17, l18, l19, l20, l21, l22, l23] ((.int v) :: st) H Q = M25 11 [l0, .val (.int v), l2, l3, l4, l5, l6, l7, l8, l9, l10, l11, l12, l13, l14, l15, l16, l17, l18, l19, l20, l21, l22, l23] st H Q := w_st (i := 1) (p := isI) at_10 rfl rfl rfl rfl rfl rfl
theorem m25_11 : M25 11 [.val (.ref r), l1, l2, l3, l4, l5, l6, l7, l8, l9, l10, l11, l12, l13, l14, l15, l16, l17, l18, l19, l20, l21, l22, l23] st H Q = M25 12 [.val (.ref r), l1, l2, l3, l4, l5, l6, l7, l8, l9, l10, l11, l12, l13, l14, l15, l16, l17, l18, l19, l20, l21, l22, l23] (.ref r :: st) H Q := w_x at_11 rfl
theorem m25_12 : M25 12 ls st H Q = M25 13 ls (.int 1 :: st) H Q := w_con at_12 rfl (by decide)
theorem m25_13 (a0 : Nat) (a1 : Int32) : M25 13 ls [.int a1, .ref a0] H Q = M21 0 [.val (.ref a0), .val (.int a1)] [] H (fun v H1 => M25 16 ls (v.toList ++ []) H1 Q) := w_stat (as := [.int a1, .ref a0]) (rest := []) at_13 cr25_9 rfl (Nat.le_of_ble_eq_true rfl) (by show 2 ≤ 2; omega) rfl
theorem m25_16 : M25 16 ls st H Q = M25 18 ls (.int 70 :: st) H Q := w_con at_16 rfl (by decide)
theorem m25_18 (a0 : Int32) (a1 : Int32) : M25 18 ls [.int a1, .int a0] H Q = M22 0 [.val (.int a0), .val (.int a1), .unset] [] H (fun v H1 => M25 21 ls (v.toList ++ []) H1 Q) := w_stat (as := [.int a1, .int a0]) (rest := []) at_18 cr25_15 rfl (Nat.le_of_ble_eq_true rfl) (by show 2 ≤ 3; omega) rfl
theorem m25_21u : M25 21 [l0, l1, .unset, l3, l4, l5, l6, l7, l8, l9, l10, l11, l12, l13, l14, l15, l16, l17, l18, l19, l20, l21, l22, l23] ((.int v) :: st) H Q = M25 22 [l0, l1, .val (.int v), l3, l4, l5, l6, l7, l8, l9, l10, l11, l12, l13, l14, l15, l16, l17, l18, l19, l20, l21, l22, l23] st H Q := w_st (i := 2) (p := isI) at_21 rfl rfl rfl rfl rfl rfl
theorem m25_22 : M25 22 [l0, .val (.int v), l2, l3, l4, l5, l6, l7, l8, l9, l10, l11, l12, l13, l14, l15, l16, l17, l18, l19, l20, l21, l22, l23] st H Q = M25 23 [l0, .val (.int v), l2, l3, l4, l5, l6, l7, l8, l9, l10, l11, l12, l13, l14, l15, l16, l17, l18, l19, l20, l21, l22, l23] (.int v :: st) H Q := w_x at_22 rfl
theorem cr25_19 : sR tables_1 dn y25 19 = some (y23, method_4_code, 1, (some .int), 1, 53) := sR_of (cR_of (by decide +kernel) rc_23 dn_23 dn_25 (sig := ⟨[.int], some .int⟩) (by decide +kernel) (by decide +kernel) rfl rfl) (by decide +kernel)
theorem m25_23 (a0 : Int32) : M25 23 ls [.int a0] H Q = M23 0 [.val (.int a0)] [] H (fun v H1 => M25 26 ls (v.toList ++ []) H1 Q) := w_stat (as := [.int a0]) (rest := []) at_23 cr25_19 rfl (Nat.le_of_ble_eq_true rfl) (by show 1 ≤ 1; omega) rfl
theorem m25_26u : M25 26 [l0, l1, l2, .unset, l4, l5, l6, l7, l8, l9, l10, l11, l12, l13, l14, l15, l16, l17, l18, l19, l20, l21, l22, l23] ((.int v) :: st) H Q = M25 27 [l0, l1, l2, .val (.int v), l4, l5, l6, l7, l8, l9, l10, l11, l12, l13, l14, l15, l16, l17, l18, l19, l20, l21, l22, l23] st H Q := w_st (i := 3) (p := isI) at_26 rfl rfl rfl rfl rfl rfl
theorem m25_27 : M25 27 ls st H Q = M25 30 ls (.ref H.length :: st) (H ++ [(.object "SuffixAutomat", D0)]) Q := (w_new (C := "SuffixAutomat") at_27 (by rw [hNew, show rCls tables_1 y25.cls 23 = some "SuffixAutomat" from by decide +kernel]; dsimp only; rw [if_pos (by decide +kernel)])).trans (by rw [lay0]; rfl)
theorem m25_30 : M25 30 ls ((.ref r) :: st) H Q = M25 31 ls ((.ref r) :: (.ref r) :: st) H Q := w_x at_30 rfl
theorem m25_31 : M25 31 [l0, .val (.int v), l2, l3, l4, l5, l6, l7, l8, l9, l10, l11, l12, l13, l14, l15, l16, l17, l18, l19, l20, l21, l22, l23] st H Q = M25 32 [l0, .val (.int v), l2, l3, l4, l5, l6, l7, l8, l9, l10, l11, l12, l13, l14, l15, l16, l17, l18, l19, l20, l21, l22, l23] (.int v :: st) H Q := w_x at_31 rfl
theorem m25_32 : M25 32 [l0, l1, .val (.int v), l3, l4, l5, l6, l7, l8, l9, l10, l11, l12, l13, l14, l15, l16, l17, l18, l19, l20, l21, l22, l23] st H Q = M25 33 [l0, l1, .val (.int v), l3, l4, l5, l6, l7, l8, l9, l10, l11, l12, l13, l14, l15, l16, l17, l18, l19, l20, l21, l22, l23] (.int v :: st) H Q := w_x at_32 rfl
theorem cr25_25 : nR tables_1 dn y25 25 = some (y0, prog_1_method_1_code, 5, none, 2, 22) := nR_of (cR_of (by decide +kernel) rc_0 dn_0 dn_25 (sig := ⟨[.int, .int], none⟩) (by decide +kernel) (by decide +kernel) rfl rfl) rfl (by decide +kernel) rfl
theorem cr25_25_o : oR tables_1 dn y25 25 = none := by decide +kernel
theorem m25_33 (a0 : Int32) (a1 : Int32) (u0 : Nat) : M25 33 ls [.int a1, .int a0, .ref r, .ref u0] H Q = M0 0 [.val (.ref r), .val (.int a0), .val (.int a1), .unset, .unset] [] H (fun v H1 => M25 36 ls (v.toList ++ [.ref u0]) H1 Q) := w_spec (as := [.int a1, .int a0]) (rest := [.ref u0]) (a := r) at_33 cr25_25_o cr25_25 rfl (Nat.le_of_ble_eq_true rfl) (by show 3 ≤ 5; omega) rfl
theorem m25_36u : M25 36 [l0, l1, l2, l3, .unset, l5, l6, l7, l8, l9, l10, l11, l12, l13, l14, l15, l16, l17, l18, l19, l20, l21, l22, l23] ((.ref r) :: st) H Q = M25 38 [l0, l1, l2, l3, .val (.ref r), l5, l6, l7, l8, l9, l10, l11, l12, l13, l14, l15, l16, l17, l18, l19, l20, l21, l22, l23] st H Q := w_st (i := 4) (p := Value.isRef) at_36 rfl rfl rfl rfl rfl rfl
theorem m25_38 : M25 38 ls st H Q = M25 39 ls (.long 0 :: st) H Q := w_con at_38 rfl (by decide)
theorem m25_39 : M25 39 [l0, l1, l2, l3, l4, .unset, .unset, l7, l8, l9, l10, l11, l12, l13, l14, l15, l16, l17, l18, l19, l20, l21, l22, l23] (.long J1 :: st) H Q = M25 41 [l0, l1, l2, l3, l4, .val (.long J1), .second, l7, l8, l9, l10, l11, l12, l13, l14, l15, l16, l17, l18, l19, l20, l21, l22, l23] st H Q := w_x at_39 rfl
theorem m25_41 : M25 41 ls st H Q = M25 42 ls (.long 0 :: st) H Q := w_con at_41 rfl (by decide)
theorem m25_42 : M25 42 [l0, l1, l2, l3, l4, l5, l6, .unset, .unset, l9, l10, l11, l12, l13, l14, l15, l16, l17, l18, l19, l20, l21, l22, l23] (.long J1 :: st) H Q = M25 44 [l0, l1, l2, l3, l4, l5, l6, .val (.long J1), .second, l9, l10, l11, l12, l13, l14, l15, l16, l17, l18, l19, l20, l21, l22, l23] st H Q := w_x at_42 rfl
theorem m25_44 : M25 44 ls st H Q = M25 45 ls (.long 0 :: st) H Q := w_con at_44 rfl (by decide)
theorem m25_45 : M25 45 [l0, l1, l2, l3, l4, l5, l6, l7, l8, .unset, .unset, l11, l12, l13, l14, l15, l16, l17, l18, l19, l20, l21, l22, l23] (.long J1 :: st) H Q = M25 47 [l0, l1, l2, l3, l4, l5, l6, l7, l8, .val (.long J1), .second, l11, l12, l13, l14, l15, l16, l17, l18, l19, l20, l21, l22, l23] st H Q := w_x at_45 rfl
theorem m25_47 : M25 47 ls st H Q = M25 48 ls (.long 0 :: st) H Q := w_con at_47 rfl (by decide)
theorem m25_48 : M25 48 [l0, l1, l2, l3, l4, l5, l6, l7, l8, l9, l10, .unset, .unset, l13, l14, l15, l16, l17, l18, l19, l20, l21, l22, l23] (.long J1 :: st) H Q = M25 50 [l0, l1, l2, l3, l4, l5, l6, l7, l8, l9, l10, .val (.long J1), .second, l13, l14, l15, l16, l17, l18, l19, l20, l21, l22, l23] st H Q := w_x at_48 rfl
theorem m25_50 : M25 50 ls st H Q = M25 51 ls (.int 0 :: st) H Q := w_con at_50 rfl (by decide)
theorem m25_51u : M25 51 [l0, l1, l2, l3, l4, l5, l6, l7, l8, l9, l10, l11, l12, .unset, l14, l15, l16, l17, l18, l19, l20, l21, l22, l23] ((.int v) :: st) H Q = M25 53 [l0, l1, l2, l3, l4, l5, l6, l7, l8, l9, l10, l11, l12, .val (.int v), l14, l15, l16, l17, l18, l19, l20, l21, l22, l23] st H Q := w_st (i := 13) (p := isI) at_51 rfl rfl rfl rfl rfl rfl
theorem m25_53 : M25 53 ls st H Q = M25 54 ls (.int 0 :: st) H Q := w_con at_53 rfl (by decide)
theorem m25_54u : M25 54 [l0, l1, l2, l3, l4, l5, l6, l7, l8, l9, l10, l11, l12, l13, .unset, l15, l16, l17, l18, l19, l20, l21, l22, l23] ((.int v) :: st) H Q = M25 56 [l0, l1, l2, l3, l4, l5, l6, l7, l8, l9, l10, l11, l12, l13, .val (.int v), l15, l16, l17, l18, l19, l20, l21, l22, l23] st H Q := w_st (i := 14) (p := isI) at_54 rfl rfl rfl rfl rfl rfl
theorem m25_56 : M25 56 [.val (.ref r), l1, l2, l3, l4, l5, l6, l7, l8, l9, l10, l11, l12, l13, l14, l15, l16, l17, l18, l19, l20, l21, l22, l23] st H Q = M25 57 [.val (.ref r), l1, l2, l3, l4, l5, l6, l7, l8, l9, l10, l11, l12, l13, l14, l15, l16, l17, l18, l19, l20, l21, l22, l23] (.ref r :: st) H Q := w_x at_56 rfl
theorem m25_57 : M25 57 ls (.ref 0 :: st) ((.array .int, sc.map Value.int) :: R) Q = M25 58 ls (.int sc.length.toInt32 :: st) ((.array .int, sc.map Value.int) :: R) Q := by exact (w_len at_57 rfl).trans (by rw [List.length_map]; rfl)
theorem m25_57p : M25 57 ls (.ref 0 :: st) (put (b + 1) ((.array .int, sc.map Value.int) :: pre) s A post) Q = M25 58 ls (.int sc.length.toInt32 :: st) (put (b + 1) ((.array .int, sc.map Value.int) :: pre) s A post) Q := by exact (w_len at_57 rfl).trans (by rw [List.length_map]; rfl)
theorem m25_58 : M25 58 ls st H Q = M25 59 ls (.int 2 :: st) H Q := w_con at_58 rfl (by decide)
theorem m25_59 : M25 59 ls (.int y :: .int x :: st) H Q = if x < y then M25 62 ls st H Q else M25 66 ls st H Q := w_icmpN at_59 (i_ge x y) rfl
theorem m25_62 : M25 62 ls st H Q = M25 63 ls (.int 2 :: st) H Q := w_con at_62 rfl (by decide)
theorem m25_63 : M25 63 ls st H Q = M25 68 ls st H Q := w_x at_63 rfl
theorem m25_66 : M25 66 [.val (.ref r), l1, l2, l3, l4, l5, l6, l7, l8, l9, l10, l11, l12, l13, l14, l15, l16, l17, l18, l19, l20, l21, l22, l23] st H Q = M25 67 [.val (.ref r), l1, l2, l3, l4, l5, l6, l7, l8, l9, l10, l11, l12, l13, l14, l15, l16, l17, l18, l19, l20, l21, l22, l23] (.ref r :: st) H Q := w_x at_66 rfl
theorem m25_67 : M25 67 ls (.ref 0 :: st) ((.array .int, sc.map Value.int) :: R) Q = M25 68 ls (.int sc.length.toInt32 :: st) ((.array .int, sc.map Value.int) :: R) Q := by exact (w_len at_67 rfl).trans (by rw [List.length_map]; rfl)
theorem m25_67p : M25 67 ls (.ref 0 :: st) (put (b + 1) ((.array .int, sc.map Value.int) :: pre) s A post) Q = M25 68 ls (.int sc.length.toInt32 :: st) (put (b + 1) ((.array .int, sc.map Value.int) :: pre) s A post) Q := by exact (w_len at_67 rfl).trans (by rw [List.length_map]; rfl)
theorem m25_68u : M25 68 [l0, l1, l2, l3, l4, l5, l6, l7, l8, l9, l10, l11, l12, l13, l14, .unset, l16, l17, l18, l19, l20, l21, l22, l23] ((.int v) :: st) H Q = M25 70 [l0, l1, l2, l3, l4, l5, l6, l7, l8, l9, l10, l11, l12, l13, l14, .val (.int v), l16, l17, l18, l19, l20, l21, l22, l23] st H Q := w_st (i := 15) (p := isI) at_68 rfl rfl rfl rfl rfl rfl
theorem m25_70 : M25 70 ls st H Q = M25 71 ls (.int 1 :: st) H Q := w_con at_70 rfl (by decide)
theorem m25_71u : M25 71 [l0, l1, l2, l3, l4, l5, l6, l7, l8, l9, l10, l11, l12, l13, l14, l15, .unset, l17, l18, l19, l20, l21, l22, l23] ((.int v) :: st) H Q = M25 73 [l0, l1, l2, l3, l4, l5, l6, l7, l8, l9, l10, l11, l12, l13, l14, l15, .val (.int v), l17, l18, l19, l20, l21, l22, l23] st H Q := w_st (i := 16) (p := isI) at_71 rfl rfl rfl rfl rfl rfl
theorem m25_73 : M25 73 [l0, l1, l2, l3, l4, l5, l6, l7, l8, l9, l10, l11, l12, l13, l14, l15, .val (.int v), l17, l18, l19, l20, l21, l22, l23] st H Q = M25 75 [l0, l1, l2, l3, l4, l5, l6, l7, l8, l9, l10, l11, l12, l13, l14, l15, .val (.int v), l17, l18, l19, l20, l21, l22, l23] (.int v :: st) H Q := w_x at_73 rfl
theorem m25_75 : M25 75 [l0, l1, l2, l3, l4, l5, l6, l7, l8, l9, l10, l11, l12, l13, l14, .val (.int v), l16, l17, l18, l19, l20, l21, l22, l23] st H Q = M25 77 [l0, l1, l2, l3, l4, l5, l6, l7, l8, l9, l10, l11, l12, l13, l14, .val (.int v), l16, l17, l18, l19, l20, l21, l22, l23] (.int v :: st) H Q := w_x at_75 rfl
theorem m25_77 : M25 77 ls (.int y :: .int x :: st) H Q = if x < y then M25 80 ls st H Q else M25 555 ls st H Q := w_icmpN at_77 (i_ge x y) rfl
theorem m25_80 : M25 80 [l0, l1, l2, l3, l4, l5, l6, l7, l8, l9, l10, l11, l12, l13, l14, l15, .val (.int v), l17, l18, l19, l20, l21, l22, l23] st H Q = M25 82 [l0, l1, l2, l3, l4, l5, l6, l7, l8, l9, l10, l11, l12, l13, l14, l15, .val (.int v), l17, l18, l19, l20, l21, l22, l23] (.int v :: st) H Q := w_x at_80 rfl
theorem m25_82 : M25 82 ls st H Q = M25 83 ls (.int 2 :: st) H Q := w_con at_82 rfl (by decide)
theorem m25_83 : M25 83 ls (.int y :: .int x :: st) H Q = if x < y then M25 388 ls st H Q else M25 86 ls st H Q := w_icmp at_83 (i_lt x y) rfl
theorem m25_86 : M25 86 [.val (.ref r), l1, l2, l3, l4, l5, l6, l7, l8, l9, l10, l11, l12, l13, l14, l15, l16, l17, l18, l19, l20, l21, l22, l23] st H Q = M25 87 [.val (.ref r), l1, l2, l3, l4, l5, l6, l7, l8, l9, l10, l11, l12, l13, l14, l15, l16, l17, l18, l19, l20, l21, l22, l23] (.ref r :: st) H Q := w_x at_86 rfl
theorem m25_87 : M25 87 [l0, l1, l2, l3, l4, l5, l6, l7, l8, l9, l10, l11, l12, l13, l14, l15, .val (.int v), l17, l18, l19, l20, l21, l22, l23] st H Q = M25 89 [l0, l1, l2, l3, l4, l5, l6, l7, l8, l9, l10, l11, l12, l13, l14, l15, .val (.int v), l17, l18, l19, l20, l21, l22, l23] (.int v :: st) H Q := w_x at_87 rfl
theorem m25_89 : M25 89 ls (.int j :: .ref 0 :: st) ((.array .int, sc.map Value.int) :: R) Q = (inB j sc ∧ M25 90 ls (.int (getA sc j) :: st) ((.array .int, sc.map Value.int) :: R) Q) := w_ild at_89 rfl rfl
theorem m25_89p : M25 89 ls (.int j :: .ref 0 :: st) (put (b + 1) ((.array .int, sc.map Value.int) :: pre) s A post) Q = (inB j sc ∧ M25 90 ls (.int (getA sc j) :: st) (put (b + 1) ((.array .int, sc.map Value.int) :: pre) s A post) Q) := w_ild at_89 rfl rfl
theorem m25_90u : M25 90 [l0, l1, l2, l3, l4, l5, l6, l7, l8, l9, l10, l11, l12, l13, l14, l15, l16, .unset, l18, l19, l20, l21, l22, l23] ((.int v) :: st) H Q = M25 92 [l0, l1, l2, l3, l4, l5, l6, l7, l8, l9, l10, l11, l12, l13, l14, l15, l16, .val (.int v), l18, l19, l20, l21, l22, l23] st H Q := w_st (i := 17) (p := isI) at_90 rfl rfl rfl rfl rfl rfl
theorem m25_90i : M25 90 [l0, l1, l2, l3, l4, l5, l6, l7, l8, l9, l10, l11, l12, l13, l14, l15, l16, .val (.int z), l18, l19, l20, l21, l22, l23] ((.int v) :: st) H Q = M25 92 [l0, l1, l2, l3, l4, l5, l6, l7, l8, l9, l10, l11, l12, l13, l14, l15, l16, .val (.int v), l18, l19, l20, l21, l22, l23] st H Q := w_st (i := 17) (p := isI) at_90 rfl rfl rfl rfl rfl rfl
theorem m25_90r : M25 90 [l0, l1, l2, l3, l4, l5, l6, l7, l8, l9, l10, l11, l12, l13, l14, l15, l16, .val (.ref q), l18, l19, l20, l21, l22, l23] ((.int v) :: st) H Q = M25 92 [l0, l1, l2, l3, l4, l5, l6, l7, l8, l9, l10, l11, l12, l13, l14, l15, l16, .val (.int v), l18, l19, l20, l21, l22, l23] st H Q := w_st (i := 17) (p := isI) at_90 rfl rfl rfl rfl rfl rfl
theorem m25_90g (h : okS l17) : M25 90 [l0, l1, l2, l3, l4, l5, l6, l7, l8, l9, l10, l11, l12, l13, l14, l15, l16, l17, l18, l19, l20, l21, l22, l23] ((.int v) :: st) H Q = M25 92 [l0, l1, l2, l3, l4, l5, l6, l7, l8, l9, l10, l11, l12, l13, l14, l15, l16, .val (.int v), l18, l19, l20, l21, l22, l23] st H Q := by rcases h with rfl | ⟨z, rfl⟩ <;> first | exact m25_90u | exact m25_90i
theorem m25_92 : M25 92 [l0, l1, l2, l3, l4, l5, l6, l7, l8, l9, l10, l11, l12, l13, l14, l15, l16, .val (.int v), l18, l19, l20, l21, l22, l23] st H Q = M25 94 [l0, l1, l2, l3, l4, l5, l6, l7, l8, l9, l10, l11, l12, l13, l14, l15, l16, .val (.int v), l18, l19, l20, l21, l22, l23] (.int v :: st) H Q := w_x at_92 rfl
theorem m25_94 : M25 94 ls st H Q = M25 96 ls (.int 7 :: st) H Q := w_con at_94 rfl (by decide)
theorem m25_96 : M25 96 ls (.int y :: .int x :: st) H Q = M25 97 ls (.int (x &&& y) :: st) H Q := w_x at_96 rfl
theorem m25_97u : M25 97 [l0, l1, l2, l3, l4, l5, l6, l7, l8, l9, l10, l11, l12, l13, l14, l15, l16, l17, .unset, l19, l20, l21, l22, l23] ((.int v) :: st) H Q = M25 99 [l0, l1, l2, l3, l4, l5, l6, l7, l8, l9, l10, l11, l12, l13, l14, l15, l16, l17, .val (.int v), l19, l20, l21, l22, l23] st H Q := w_st (i := 18) (p := isI) at_97 rfl rfl rfl rfl rfl rfl
theorem m25_97i : M25 97 [l0, l1, l2, l3, l4, l5, l6, l7, l8, l9, l10, l11, l12, l13, l14, l15, l16, l17, .val (.int z), l19, l20, l21, l22, l23] ((.int v) :: st) H Q = M25 99 [l0, l1, l2, l3, l4, l5, l6, l7, l8, l9, l10, l11, l12, l13, l14, l15, l16, l17, .val (.int v), l19, l20, l21, l22, l23] st H Q := w_st (i := 18) (p := isI) at_97 rfl rfl rfl rfl rfl rfl
theorem m25_97r : M25 97 [l0, l1, l2, l3, l4, l5, l6, l7, l8, l9, l10, l11, l12, l13, l14, l15, l16, l17, .val (.ref q), l19, l20, l21, l22, l23] ((.int v) :: st) H Q = M25 99 [l0, l1, l2, l3, l4, l5, l6, l7, l8, l9, l10, l11, l12, l13, l14, l15, l16, l17, .val (.int v), l19, l20, l21, l22, l23] st H Q := w_st (i := 18) (p := isI) at_97 rfl rfl rfl rfl rfl rfl
theorem m25_97g (h : okS l18) : M25 97 [l0, l1, l2, l3, l4, l5, l6, l7, l8, l9, l10, l11, l12, l13, l14, l15, l16, l17, l18, l19, l20, l21, l22, l23] ((.int v) :: st) H Q = M25 99 [l0, l1, l2, l3, l4, l5, l6, l7, l8, l9, l10, l11, l12, l13, l14, l15, l16, l17, .val (.int v), l19, l20, l21, l22, l23] st H Q := by rcases h with rfl | ⟨z, rfl⟩ <;> first | exact m25_97u | exact m25_97i
theorem m25_99 : M25 99 [l0, l1, l2, l3, l4, l5, l6, l7, l8, l9, l10, l11, l12, l13, l14, l15, l16, .val (.int v), l18, l19, l20, l21, l22, l23] st H Q = M25 101 [l0, l1, l2, l3, l4, l5, l6, l7, l8, l9, l10, l11, l12, l13, l14, l15, l16, .val (.int v), l18, l19, l20, l21, l22, l23] (.int v :: st) H Q := w_x at_99 rfl
theorem m25_101 : M25 101 ls st H Q = M25 102 ls (.int 3 :: st) H Q := w_con at_101 rfl (by decide)
theorem m25_102 : M25 102 ls (.int y :: .int x :: st) H Q = M25 103 ls (.int (XT.ushr x y) :: st) H Q := w_x at_102 rfl
theorem m25_103u : M25 103 [l0, l1, l2, l3, l4, l5, l6, l7, l8, l9, l10, l11, l12, l13, l14, l15, l16, l17, l18, .unset, l20, l21, l22, l23] ((.int v) :: st) H Q = M25 105 [l0, l1, l2, l3, l4, l5, l6, l7, l8, l9, l10, l11, l12, l13, l14, l15, l16, l17, l18, .val (.int v), l20, l21, l22, l23] st H Q := w_st (i := 19) (p := isI) at_103 rfl rfl rfl rfl rfl rfl
theorem m25_103i : M25 103 [l0, l1, l2, l3, l4, l5, l6, l7, l8, l9, l10, l11, l12, l13, l14, l15, l16, l17, l18, .val (.int z), l20, l21, l22, l23] ((.int v) :: st) H Q = M25 105 [l0, l1, l2, l3, l4, l5, l6, l7, l8, l9, l10, l11, l12, l13, l14, l15, l16, l17, l18, .val (.int v), l20, l21, l22, l23] st H Q := w_st (i := 19) (p := isI) at_103 rfl rfl rfl rfl rfl rfl
theorem m25_103r : M25 103 [l0, l1, l2, l3, l4, l5, l6, l7, l8, l9, l10, l11, l12, l13, l14, l15, l16, l17, l18, .val (.ref q), l20, l21, l22, l23] ((.int v) :: st) H Q = M25 105 [l0, l1, l2, l3, l4, l5, l6, l7, l8, l9, l10, l11, l12, l13, l14, l15, l16, l17, l18, .val (.int v), l20, l21, l22, l23] st H Q := w_st (i := 19) (p := isI) at_103 rfl rfl rfl rfl rfl rfl
theorem m25_103g (h : okS l19) : M25 103 [l0, l1, l2, l3, l4, l5, l6, l7, l8, l9, l10, l11, l12, l13, l14, l15, l16, l17, l18, l19, l20, l21, l22, l23] ((.int v) :: st) H Q = M25 105 [l0, l1, l2, l3, l4, l5, l6, l7, l8, l9, l10, l11, l12, l13, l14, l15, l16, l17, l18, .val (.int v), l20, l21, l22, l23] st H Q := by rcases h with rfl | ⟨z, rfl⟩ <;> first | exact m25_103u | exact m25_103i
theorem m25_105 : M25 105 [l0, l1, l2, l3, l4, l5, l6, l7, l8, l9, l10, l11, l12, l13, l14, l15, l16, l17, .val (.int v), l19, l20, l21, l22, l23] st H Q = M25 107 [l0, l1, l2, l3, l4, l5, l6, l7, l8, l9, l10, l11, l12, l13, l14, l15, l16, l17, .val (.int v), l19, l20, l21, l22, l23] (.int v :: st) H Q := w_x at_105 rfl
theorem m25_107 : M25 107 ls st H Q = M25 108 ls (.int 2 :: st) H Q := w_con at_107 rfl (by decide)
theorem m25_108 : M25 108 ls (.int y :: .int x :: st) H Q = if y < x then M25 124 ls st H Q else M25 111 ls st H Q := w_icmp at_108 (i_gt x y) rfl
theorem m25_111 : M25 111 [l0, l1, l2, l3, .val (.ref r), l5, l6, l7, l8, l9, l10, l11, l12, l13, l14, l15, l16, l17, l18, l19, l20, l21, l22, l23] st H Q = M25 113 [l0, l1, l2, l3, .val (.ref r), l5, l6, l7, l8, l9, l10, l11, l12, l13, l14, l15, l16, l17, l18, l19, l20, l21, l22, l23] (.ref r :: st) H Q := w_x at_111 rfl
theorem m25_113 : M25 113 [l0, l1, l2, l3, l4, l5, l6, l7, l8, l9, l10, l11, l12, l13, l14, l15, l16, l17, l18, .val (.int v), l20, l21, l22, l23] st H Q = M25 115 [l0, l1, l2, l3, l4, l5, l6, l7, l8, l9, l10, l11, l12, l13, l14, l15, l16, l17, l18, .val (.int v), l20, l21, l22, l23] (.int v :: st) H Q := w_x at_113 rfl
theorem m25_115 : M25 115 [l0, l1, l2, .val (.int v), l4, l5, l6, l7, l8, l9, l10, l11, l12, l13, l14, l15, l16, l17, l18, l19, l20, l21, l22, l23] st H Q = M25 116 [l0, l1, l2, .val (.int v), l4, l5, l6, l7, l8, l9, l10, l11, l12, l13, l14, l15, l16, l17, l18, l19, l20, l21, l22, l23] (.int v :: st) H Q := w_x at_115 rfl
theorem m25_116 : M25 116 ls (.int y :: .int x :: st) H Q = (y ≠ 0 ∧ M25 117 ls (.int (x % y) :: st) H Q) := w_div (f := fun x y => x % y) at_116 (fun _ => rfl) rfl rfl
theorem cr25_28 : vR tables_1 dn y25 28 = some (false, y8, prog_1_method_2_code, 2, (some .boolean), 1, 0) := vR_of (cR_of (by decide +kernel) rc_8 dn_8 dn_25 (sig := ⟨[.int], some .boolean⟩) (by decide +kernel) (by decide +kernel) rfl rfl) (by decide +kernel) (by decide +kernel) (by decide +kernel)
theorem m25_117 (a0 : Int32) : M25 117 ls [.int a0, .ref (b + 1)] (put (b + 1) pre s A post) Q = M8 0 [.val (.ref (b + 1)), .val (.int a0)] [] (put (b + 1) pre s A post) (fun v H1 => M25 120 ls (v.toList ++ []) H1 Q) := w_virt (as := [.int a0]) (rest := []) (a := (b + 1)) at_117 cr25_28 put_o rfl rfl (Nat.le_of_ble_eq_true rfl) (by show 2 ≤ 2; omega) rfl
theorem m25_120 : M25 120 ls ((.int v) :: st) H Q = M25 121 ls st H Q := w_x at_120 rfl
theorem m25_121 : M25 121 ls st H Q = M25 388 ls st H Q := w_x at_121 rfl
theorem m25_124 : M25 124 [l0, l1, l2, l3, l4, l5, l6, l7, l8, l9, l10, l11, l12, l13, l14, l15, l16, l17, .val (.int v), l19, l20, l21, l22, l23] st H Q = M25 126 [l0, l1, l2, l3, l4, l5, l6, l7, l8, l9, l10, l11, l12, l13, l14, l15, l16, l17, .val (.int v), l19, l20, l21, l22, l23] (.int v :: st) H Q := w_x at_124 rfl
theorem m25_126 : M25 126 ls st H Q = M25 127 ls (.int 3 :: st) H Q := w_con at_126 rfl (by decide)
theorem m25_127 : M25 127 ls (.int y :: .int x :: st) H Q = if x = y then M25 136 ls st H Q else M25 130 ls st H Q := w_icmp at_127 (i_eq x y) rfl
theorem m25_130 : M25 130 [l0, l1, l2, l3, l4, l5, l6, l7, l8, l9, l10, l11, l12, l13, l14, l15, l16, l17, .val (.int v), l19, l20, l21, l22, l23] st H Q = M25 132 [l0, l1, l2, l3, l4, l5, l6, l7, l8, l9, l10, l11, l12, l13, l14, l15, l16, l17, .val (.int v), l19, l20, l21, l22, l23] (.int v :: st) H Q := w_x at_130 rfl
theorem m25_132 : M25 132 ls st H Q = M25 133 ls (.int 4 :: st) H Q := w_con at_132 rfl (by decide)
theorem m25_133 : M25 133 ls (.int y :: .int x :: st) H Q = if x = y then M25 136 ls st H Q else M25 269 ls st H Q := w_icmpN at_133 (i_ne x y) rfl
theorem m25_136 : M25 136 [l0, l1, l2, l3, l4, l5, l6, l7, l8, l9, l10, l11, l12, .val (.int v), l14, l15, l16, l17, l18, l19, l20, l21, l22, l23] st H Q = M25 138 [l0, l1, l2, l3, l4, l5, l6, l7, l8, l9, l10, l11, l12, .val (.int v), l14, l15, l16, l17, l18, l19, l20, l21, l22, l23] (.int v :: st) H Q := w_x at_136 rfl
theorem m25_138 : M25 138 ls st H Q = M25 140 ls (.int 64 :: st) H Q := w_con at_138 rfl (by decide)
theorem m25_140 : M25 140 ls (.int y :: .int x :: st) H Q = if x < y then M25 143 ls st H Q else M25 388 ls st H Q := w_icmpN at_140 (i_ge x y) rfl
theorem m25_143 : M25 143 [l0, l1, l2, l3, l4, l5, l6, l7, l8, l9, l10, l11, l12, l13, l14, l15, l16, l17, l18, .val (.int v), l20, l21, l22, l23] st H Q = M25 145 [l0, l1, l2, l3, l4, l5, l6, l7, l8, l9, l10, l11, l12, l13, l14, l15, l16, l17, l18, .val (.int v), l20, l21, l22, l23] (.int v :: st) H Q := w_x at_143 rfl
theorem m25_145 : M25 145 [l0, l1, l2, .val (.int v), l4, l5, l6, l7, l8, l9, l10, l11, l12, l13, l14, l15, l16, l17, l18, l19, l20, l21, l22, l23] st H Q = M25 146 [l0, l1, l2, .val (.int v), l4, l5, l6, l7, l8, l9, l10, l11, l12, l13, l14, l15, l16, l17, l18, l19, l20, l21, l22, l23] (.int v :: st) H Q := w_x at_145 rfl
theorem m25_146 : M25 146 ls (.int y :: .int x :: st) H Q = (y ≠ 0 ∧ M25 147 ls (.int (x % y) :: st) H Q) := w_div (f := fun x y => x % y) at_146 (fun _ => rfl) rfl rfl
theorem m25_147u : M25 147 [l0, l1, l2, l3, l4, l5, l6, l7, l8, l9, l10, l11, l12, l13, l14, l15, l16, l17, l18, l19, .unset, l21, l22, l23] ((.int v) :: st) H Q = M25 149 [l0, l1, l2, l3, l4, l5, l6, l7, l8, l9, l10, l11, l12, l13, l14, l15, l16, l17, l18, l19, .val (.int v), l21, l22, l23] st H Q := w_st (i := 20) (p := isI) at_147 rfl rfl rfl rfl rfl rfl
theorem m25_147i : M25 147 [l0, l1, l2, l3, l4, l5, l6, l7, l8, l9, l10, l11, l12, l13, l14, l15, l16, l17, l18, l19, .val (.int z), l21, l22, l23] ((.int v) :: st) H Q = M25 149 [l0, l1, l2, l3, l4, l5, l6, l7, l8, l9, l10, l11, l12, l13, l14, l15, l16, l17, l18, l19, .val (.int v), l21, l22, l23] st H Q := w_st (i := 20) (p := isI) at_147 rfl rfl rfl rfl rfl rfl
theorem m25_147r : M25 147 [l0, l1, l2, l3, l4, l5, l6, l7, l8, l9, l10, l11, l12, l13, l14, l15, l16, l17, l18, l19, .val (.ref q), l21, l22, l23] ((.int v) :: st) H Q = M25 149 [l0, l1, l2, l3, l4, l5, l6, l7, l8, l9, l10, l11, l12, l13, l14, l15, l16, l17, l18, l19, .val (.int v), l21, l22, l23] st H Q := w_st (i := 20) (p := isI) at_147 rfl rfl rfl rfl rfl rfl
theorem m25_147g (h : okS l20) : M25 147 [l0, l1, l2, l3, l4, l5, l6, l7, l8, l9, l10, l11, l12, l13, l14, l15, l16, l17, l18, l19, l20, l21, l22, l23] ((.int v) :: st) H Q = M25 149 [l0, l1, l2, l3, l4, l5, l6, l7, l8, l9, l10, l11, l12, l13, l14, l15, l16, l17, l18, l19, .val (.int v), l21, l22, l23] st H Q := by rcases h with rfl | ⟨z, rfl⟩ <;> first | exact m25_147u | exact m25_147i
theorem m25_149 : M25 149 [l0, l1, l2, l3, l4, l5, l6, l7, l8, l9, l10, l11, l12, l13, l14, l15, l16, l17, .val (.int v), l19, l20, l21, l22, l23] st H Q = M25 151 [l0, l1, l2, l3, l4, l5, l6, l7, l8, l9, l10, l11, l12, l13, l14, l15, l16, l17, .val (.int v), l19, l20, l21, l22, l23] (.int v :: st) H Q := w_x at_149 rfl
theorem m25_151 : M25 151 ls st H Q = M25 152 ls (.int 4 :: st) H Q := w_con at_151 rfl (by decide)
theorem m25_152 : M25 152 ls (.int y :: .int x :: st) H Q = if x = y then M25 155 ls st H Q else M25 182 ls st H Q := w_icmpN at_152 (i_ne x y) rfl
theorem m25_155 : M25 155 [l0, l1, l2, l3, .val (.ref r), l5, l6, l7, l8, l9, l10, l11, l12, l13, l14, l15, l16, l17, l18, l19, l20, l21, l22, l23] st H Q = M25 157 [l0, l1, l2, l3, .val (.ref r), l5, l6, l7, l8, l9, l10, l11, l12, l13, l14, l15, l16, l17, l18, l19, l20, l21, l22, l23] (.ref r :: st) H Q := w_x at_155 rfl
theorem m25_157 : M25 157 [l0, l1, l2, l3, l4, l5, l6, l7, l8, l9, l10, l11, l12, l13, .val (.int v), l15, l16, l17, l18, l19, l20, l21, l22, l23] st H Q = M25 159 [l0, l1, l2, l3, l4, l5, l6, l7, l8, l9, l10, l11, l12, l13, .val (.int v), l15, l16, l17, l18, l19, l20, l21, l22, l23] (.int v :: st) H Q := w_x at_157 rfl
theorem m25_159 : M25 159 [l0, l1, l2, l3, l4, l5, l6, l7, l8, l9, l10, l11, l12, .val (.int v), l14, l15, l16, l17, l18, l19, l20, l21, l22, l23] st H Q = M25 161 [l0, l1, l2, l3, l4, l5, l6, l7, l8, l9, l10, l11, l12, .val (.int v), l14, l15, l16, l17, l18, l19, l20, l21, l22, l23] (.int v :: st) H Q := w_x at_159 rfl
theorem m25_161 : M25 161 ls (.int y :: .int x :: st) H Q = M25 162 ls (.int (x + y) :: st) H Q := w_x at_161 rfl
theorem cr25_32 : vR tables_1 dn y25 32 = some (false, y12, prog_1_method_4_code, 2, (some .int), 1, 52) := vR_of (cR_of (by decide +kernel) rc_12 dn_12 dn_25 (sig := ⟨[.int], some .int⟩) (by decide +kernel) (by decide +kernel) rfl rfl) (by decide +kernel) (by decide +kernel) (by decide +kernel)
theorem m25_162 (a0 : Int32) : M25 162 ls [.int a0, .ref (b + 1)] (put (b + 1) pre s A post) Q = M12 0 [.val (.ref (b + 1)), .val (.int a0)] [] (put (b + 1) pre s A post) (fun v H1 => M25 165 ls (v.toList ++ []) H1 Q) := w_virt (as := [.int a0]) (rest := []) (a := (b + 1)) at_162 cr25_32 put_o rfl rfl (Nat.le_of_ble_eq_true rfl) (by show 2 ≤ 2; omega) rfl
theorem m25_165u : M25 165 [l0, l1, l2, l3, l4, l5, l6, l7, l8, l9, l10, l11, l12, l13, l14, l15, l16, l17, l18, l19, l20, .unset, l22, l23] ((.int v) :: st) H Q = M25 167 [l0, l1, l2, l3, l4, l5, l6, l7, l8, l9, l10, l11, l12, l13, l14, l15, l16, l17, l18, l19, l20, .val (.int v), l22, l23] st H Q := w_st (i := 21) (p := isI) at_165 rfl rfl rfl rfl rfl rfl
theorem m25_165i : M25 165 [l0, l1, l2, l3, l4, l5, l6, l7, l8, l9, l10, l11, l12, l13, l14, l15, l16, l17, l18, l19, l20, .val (.int z), l22, l23] ((.int v) :: st) H Q = M25 167 [l0, l1, l2, l3, l4, l5, l6, l7, l8, l9, l10, l11, l12, l13, l14, l15, l16, l17, l18, l19, l20, .val (.int v), l22, l23] st H Q := w_st (i := 21) (p := isI) at_165 rfl rfl rfl rfl rfl rfl
theorem m25_165r : M25 165 [l0, l1, l2, l3, l4, l5, l6, l7, l8, l9, l10, l11, l12, l13, l14, l15, l16, l17, l18, l19, l20, .val (.ref q), l22, l23] ((.int v) :: st) H Q = M25 167 [l0, l1, l2, l3, l4, l5, l6, l7, l8, l9, l10, l11, l12, l13, l14, l15, l16, l17, l18, l19, l20, .val (.int v), l22, l23] st H Q := w_st (i := 21) (p := isI) at_165 rfl rfl rfl rfl rfl rfl
theorem m25_165g (h : okS l21) : M25 165 [l0, l1, l2, l3, l4, l5, l6, l7, l8, l9, l10, l11, l12, l13, l14, l15, l16, l17, l18, l19, l20, l21, l22, l23] ((.int v) :: st) H Q = M25 167 [l0, l1, l2, l3, l4, l5, l6, l7, l8, l9, l10, l11, l12, l13, l14, l15, l16, l17, l18, l19, l20, .val (.int v), l22, l23] st H Q := by rcases h with rfl | ⟨z, rfl⟩ <;> first | exact m25_165u | exact m25_165i
theorem m25_167 : M25 167 [l0, l1, l2, l3, l4, l5, l6, l7, l8, l9, l10, l11, l12, l13, l14, l15, l16, l17, l18, l19, l20, .val (.int v), l22, l23] st H Q = M25 169 [l0, l1, l2, l3, l4, l5, l6, l7, l8, l9, l10, l11, l12, l13, l14, l15, l16, l17, l18, l19, l20, .val (.int v), l22, l23] (.int v :: st) H Q := w_x at_167 rfl
theorem m25_169 : M25 169 ls (.int x :: st) H Q = if x < 0 then M25 182 ls st H Q else M25 172 ls st H Q := w_if at_169 (z_lt x) rfl
theorem m25_172 : M25 172 [l0, l1, l2, l3, l4, l5, l6, l7, l8, l9, l10, l11, l12, l13, l14, l15, l16, l17, l18, l19, l20, .val (.int v), l22, l23] st H Q = M25 174 [l0, l1, l2, l3, l4, l5, l6, l7, l8, l9, l10, l11, l12, l13, l14, l15, l16, l17, l18, l19, l20, .val (.int v), l22, l23] (.int v :: st) H Q := w_x at_172 rfl
theorem m25_174 : M25 174 [l0, l1, l2, .val (.int v), l4, l5, l6, l7, l8, l9, l10, l11, l12, l13, l14, l15, l16, l17, l18, l19, l20, l21, l22, l23] st H Q = M25 175 [l0, l1, l2, .val (.int v), l4, l5, l6, l7, l8, l9, l10, l11, l12, l13, l14, l15, l16, l17, l18, l19, l20, l21, l22, l23] (.int v :: st) H Q := w_x at_174 rfl
theorem m25_175 : M25 175 ls (.int y :: .int x :: st) H Q = if x < y then M25 178 ls st H Q else M25 182 ls st H Q := w_icmpN at_175 (i_ge x y) rfl
theorem m25_178 : M25 178 [l0, l1, l2, l3, l4, l5, l6, l7, l8, l9, l10, l11, l12, l13, l14, l15, l16, l17, l18, l19, l20, .val (.int v), l22, l23] st H Q = M25 180 [l0, l1, l2, l3, l4, l5, l6, l7, l8, l9, l10, l11, l12, l13, l14, l15, l16, l17, l18, l19, l20, .val (.int v), l22, l23] (.int v :: st) H Q := w_x at_178 rfl
theorem m25_180i : M25 180 [l0, l1, l2, l3, l4, l5, l6, l7, l8, l9, l10, l11, l12, l13, l14, l15, l16, l17, l18, l19, .val (.int z), l21, l22, l23] ((.int v) :: st) H Q = M25 182 [l0, l1, l2, l3, l4, l5, l6, l7, l8, l9, l10, l11, l12, l13, l14, l15, l16, l17, l18, l19, .val (.int v), l21, l22, l23] st H Q := w_st (i := 20) (p := isI) at_180 rfl rfl rfl rfl rfl rfl
theorem m25_182 : M25 182 [l0, l1, l2, l3, .val (.ref r), l5, l6, l7, l8, l9, l10, l11, l12, l13, l14, l15, l16, l17, l18, l19, l20, l21, l22, l23] st H Q = M25 184 [l0, l1, l2, l3, .val (.ref r), l5, l6, l7, l8, l9, l10, l11, l12, l13, l14, l15, l16, l17, l18, l19, l20, l21, l22, l23] (.ref r :: st) H Q := w_x at_182 rfl
theorem m25_184 : M25 184 [l0, l1, l2, l3, l4, l5, l6, l7, l8, l9, l10, l11, l12, l13, l14, l15, l16, l17, l18, l19, .val (.int v), l21, l22, l23] st H Q = M25 186 [l0, l1, l2, l3, l4, l5, l6, l7, l8, l9, l10, l11, l12, l13, l14, l15, l16, l17, l18, l19, .val (.int v), l21, l22, l23] (.int v :: st) H Q := w_x at_184 rfl
theorem cr25_35 : vR tables_1 dn y25 35 = some (false, y11, prog_1_method_6_code, 2, (some .boolean), 1, 52) := vR_of (cR_of (by decide +kernel) rc_11 dn_11 dn_25 (sig := ⟨[.int], some .boolean⟩) (by decide +kernel) (by decide +kernel) rfl rfl) (by decide +kernel) (by decide +kernel) (by decide +kernel)
theorem m25_186 (a0 : Int32) : M25 186 ls [.int a0, .ref (b + 1)] (put (b + 1) pre s A post) Q = M11 0 [.val (.ref (b + 1)), .val (.int a0)] [] (put (b + 1) pre s A post) (fun v H1 => M25 189 ls (v.toList ++ []) H1 Q) := w_virt (as := [.int a0]) (rest := []) (a := (b + 1)) at_186 cr25_35 put_o rfl rfl (Nat.le_of_ble_eq_true rfl) (by show 2 ≤ 2; omega) rfl
theorem m25_189 : M25 189 ls (.int x :: st) H Q = if x = 0 then M25 266 ls st H Q else M25 192 ls st H Q := w_if at_189 (z_eq x) rfl
theorem m25_192 : M25 192 [l0, l1, l2, l3, l4, l5, l6, l7, l8, l9, l10, l11, l12, l13, l14, l15, l16, l17, l18, l19, .val (.int v), l21, l22, l23] st H Q = M25 194 [l0, l1, l2, l3, l4, l5, l6, l7, l8, l9, l10, l11, l12, l13, l14, l15, l16, l17, l18, l19, .val (.int v), l21, l22, l23] (.int v :: st) H Q := w_x at_192 rfl
theorem m25_194 : M25 194 ls (.int x :: st) H Q = M25 195 ls (.long x.toInt64 :: st) H Q := w_x at_194 rfl
theorem m25_195 : M25 195 ls st H Q = M25 196 ls (.int 3 :: st) H Q := w_con at_195 rfl (by decide)
theorem m25_196 : M25 196 [l0, l1, l2, l3, l4, l5, l6, l7, l8, l9, l10, l11, l12, .val (.int v), l14, l15, l16, l17, l18, l19, l20, l21, l22, l23] st H Q = M25 198 [l0, l1, l2, l3, l4, l5, l6, l7, l8, l9, l10, l11, l12, .val (.int v), l14, l15, l16, l17, l18, l19, l20, l21, l22, l23] (.int v :: st) H Q := w_x at_196 rfl
theorem m25_198 : M25 198 ls st H Q = M25 200 ls (.int 15 :: st) H Q := w_con at_198 rfl (by decide)
theorem m25_200 : M25 200 ls (.int y :: .int x :: st) H Q = M25 201 ls (.int (x &&& y) :: st) H Q := w_x at_200 rfl
theorem m25_201 : M25 201 ls (.int y :: .int x :: st) H Q = M25 202 ls (.int (x * y) :: st) H Q := w_x at_201 rfl
theorem m25_202 : M25 202 ls (.int y :: .long J1 :: st) H Q = M25 203 ls (.long (J1 <<< (y.toInt64 &&& 63)) :: st) H Q := w_x at_202 rfl
theorem m25_203 : M25 203 [l0, l1, l2, l3, l4, l5, l6, l7, l8, l9, l10, l11, l12, l13, l14, l15, l16, l17, l18, l19, l20, .unset, .unset, l23] (.long J1 :: st) H Q = M25 205 [l0, l1, l2, l3, l4, l5, l6, l7, l8, l9, l10, l11, l12, l13, l14, l15, l16, l17, l18, l19, l20, .val (.long J1), .second, l23] st H Q := w_x at_203 rfl
theorem m25_205 : M25 205 [l0, l1, l2, l3, l4, l5, l6, l7, l8, l9, l10, l11, l12, .val (.int v), l14, l15, l16, l17, l18, l19, l20, l21, l22, l23] st H Q = M25 207 [l0, l1, l2, l3, l4, l5, l6, l7, l8, l9, l10, l11, l12, .val (.int v), l14, l15, l16, l17, l18, l19, l20, l21, l22, l23] (.int v :: st) H Q := w_x at_205 rfl
theorem m25_207 : M25 207 ls st H Q = M25 209 ls (.int 16 :: st) H Q := w_con at_207 rfl (by decide)
theorem m25_209 : M25 209 ls (.int y :: .int x :: st) H Q = if x < y then M25 212 ls st H Q else M25 222 ls st H Q := w_icmpN at_209 (i_ge x y) rfl
theorem m25_212 : M25 212 [l0, l1, l2, l3, l4, .val (.long J1), l6, l7, l8, l9, l10, l11, l12, l13, l14, l15, l16, l17, l18, l19, l20, l21, l22, l23] st H Q = M25 214 [l0, l1, l2, l3, l4, .val (.long J1), l6, l7, l8, l9, l10, l11, l12, l13, l14, l15, l16, l17, l18, l19, l20, l21, l22, l23] (.long J1 :: st) H Q := w_x at_212 rfl
theorem m25_214 : M25 214 [l0, l1, l2, l3, l4, l5, l6, l7, l8, l9, l10, l11, l12, l13, l14, l15, l16, l17, l18, l19, l20, .val (.long J1), l22, l23] st H Q = M25 216 [l0, l1, l2, l3, l4, l5, l6, l7, l8, l9, l10, l11, l12, l13, l14, l15, l16, l17, l18, l19, l20, .val (.long J1), l22, l23] (.long J1 :: st) H Q := w_x at_214 rfl
theorem m25_216 : M25 216 ls (.long J2 :: .long J1 :: st) H Q = M25 217 ls (.long (J1 ||| J2) :: st) H Q := w_x at_216 rfl
theorem m25_217 : M25 217 [l0, l1, l2, l3, l4, .val (.long J2), .second, l7, l8, l9, l10, l11, l12, l13, l14, l15, l16, l17, l18, l19, l20, l21, l22, l23] (.long J1 :: st) H Q = M25 219 [l0, l1, l2, l3, l4, .val (.long J1), .second, l7, l8, l9, l10, l11, l12, l13, l14, l15, l16, l17, l18, l19, l20, l21, l22, l23] st H Q := w_x at_217 rfl
theorem m25_219 : M25 219 ls st H Q = M25 263 ls st H Q := w_x at_219 rfl
theorem m25_222 : M25 222 [l0, l1, l2, l3, l4, l5, l6, l7, l8, l9, l10, l11, l12, .val (.int v), l14, l15, l16, l17, l18, l19, l20, l21, l22, l23] st H Q = M25 224 [l0, l1, l2, l3, l4, l5, l6, l7, l8, l9, l10, l11, l12, .val (.int v), l14, l15, l16, l17, l18, l19, l20, l21, l22, l23] (.int v :: st) H Q := w_x at_222 rfl
theorem m25_224 : M25 224 ls st H Q = M25 226 ls (.int 32 :: st) H Q := w_con at_224 rfl (by decide)
theorem m25_226 : M25 226 ls (.int y :: .int x :: st) H Q = if x < y then M25 229 ls st H Q else M25 239 ls st H Q := w_icmpN at_226 (i_ge x y) rfl
theorem m25_229 : M25 229 [l0, l1, l2, l3, l4, l5, l6, .val (.long J1), l8, l9, l10, l11, l12, l13, l14, l15, l16, l17, l18, l19, l20, l21, l22, l23] st H Q = M25 231 [l0, l1, l2, l3, l4, l5, l6, .val (.long J1), l8, l9, l10, l11, l12, l13, l14, l15, l16, l17, l18, l19, l20, l21, l22, l23] (.long J1 :: st) H Q := w_x at_229 rfl
theorem m25_231 : M25 231 [l0, l1, l2, l3, l4, l5, l6, l7, l8, l9, l10, l11, l12, l13, l14, l15, l16, l17, l18, l19, l20, .val (.long J1), l22, l23] st H Q = M25 233 [l0, l1, l2, l3, l4, l5, l6, l7, l8, l9, l10, l11, l12, l13, l14, l15, l16, l17, l18, l19, l20, .val (.long J1), l22, l23] (.long J1 :: st) H Q := w_x at_231 rfl
theorem m25_233 : M25 233 ls (.long J2 :: .long J1 :: st) H Q = M25 234 ls (.long (J1 ||| J2) :: st) H Q := w_x at_233 rfl
theorem m25_234 : M25 234 [l0, l1, l2, l3, l4, l5, l6, .val (.long J2), .second, l9, l10, l11, l12, l13, l14, l15, l16, l17, l18, l19, l20, l21, l22, l23] (.long J1 :: st) H Q = M25 236 [l0, l1, l2, l3, l4, l5, l6, .val (.long J1), .second, l9, l10, l11, l12, l13, l14, l15, l16, l17, l18, l19, l20, l21, l22, l23] st H Q := w_x at_234 rfl
theorem m25_236 : M25 236 ls st H Q = M25 263 ls st H Q := w_x at_236 rfl
theorem m25_239 : M25 239 [l0, l1, l2, l3, l4, l5, l6, l7, l8, l9, l10, l11, l12, .val (.int v), l14, l15, l16, l17, l18, l19, l20, l21, l22, l23] st H Q = M25 241 [l0, l1, l2, l3, l4, l5, l6, l7, l8, l9, l10, l11, l12, .val (.int v), l14, l15, l16, l17, l18, l19, l20, l21, l22, l23] (.int v :: st) H Q := w_x at_239 rfl
theorem m25_241 : M25 241 ls st H Q = M25 243 ls (.int 48 :: st) H Q := w_con at_241 rfl (by decide)
theorem m25_243 : M25 243 ls (.int y :: .int x :: st) H Q = if x < y then M25 246 ls st H Q else M25 256 ls st H Q := w_icmpN at_243 (i_ge x y) rfl
theorem m25_246 : M25 246 [l0, l1, l2, l3, l4, l5, l6, l7, l8, .val (.long J1), l10, l11, l12, l13, l14, l15, l16, l17, l18, l19, l20, l21, l22, l23] st H Q = M25 248 [l0, l1, l2, l3, l4, l5, l6, l7, l8, .val (.long J1), l10, l11, l12, l13, l14, l15, l16, l17, l18, l19, l20, l21, l22, l23] (.long J1 :: st) H Q := w_x at_246 rfl
theorem m25_248 : M25 248 [l0, l1, l2, l3, l4, l5, l6, l7, l8, l9, l10, l11, l12, l13, l14, l15, l16, l17, l18, l19, l20, .val (.long J1), l22, l23] st H Q = M25 250 [l0, l1, l2, l3, l4, l5, l6, l7, l8, l9, l10, l11, l12, l13, l14, l15, l16, l17, l18, l19, l20, .val (.long J1), l22, l23] (.long J1 :: st) H Q := w_x at_248 rfl
theorem m25_250 : M25 250 ls (.long J2 :: .long J1 :: st) H Q = M25 251 ls (.long (J1 ||| J2) :: st) H Q := w_x at_250 rfl
theorem m25_251 : M25 251 [l0, l1, l2, l3, l4, l5, l6, l7, l8, .val (.long J2), .second, l11, l12, l13, l14, l15, l16, l17, l18, l19, l20, l21, l22, l23] (.long J1 :: st) H Q = M25 253 [l0, l1, l2, l3, l4, l5, l6, l7, l8, .val (.long J1), .second, l11, l12, l13, l14, l15, l16, l17, l18, l19, l20, l21, l22, l23] st H Q := w_x at_251 rfl
theorem m25_253 : M25 253 ls st H Q = M25 263 ls st H Q := w_x at_253 rfl
theorem m25_256 : M25 256 [l0, l1, l2, l3, l4, l5, l6, l7, l8, l9, l10, .val (.long J1), l12, l13, l14, l15, l16, l17, l18, l19, l20, l21, l22, l23] st H Q = M25 258 [l0, l1, l2, l3, l4, l5, l6, l7, l8, l9, l10, .val (.long J1), l12, l13, l14, l15, l16, l17, l18, l19, l20, l21, l22, l23] (.long J1 :: st) H Q := w_x at_256 rfl
theorem m25_258 : M25 258 [l0, l1, l2, l3, l4, l5, l6, l7, l8, l9, l10, l11, l12, l13, l14, l15, l16, l17, l18, l19, l20, .val (.long J1), l22, l23] st H Q = M25 260 [l0, l1, l2, l3, l4, l5, l6, l7, l8, l9, l10, l11, l12, l13, l14, l15, l16, l17, l18, l19, l20, .val (.long J1), l22, l23] (.long J1 :: st) H Q := w_x at_258 rfl
theorem m25_260 : M25 260 ls (.long J2 :: .long J1 :: st) H Q = M25 261 ls (.long (J1 ||| J2) :: st) H Q := w_x at_260 rfl
theorem m25_261 : M25 261 [l0, l1, l2, l3, l4, l5, l6, l7, l8, l9, l10, .val (.long J2), .second, l13, l14, l15, l16, l17, l18, l19, l20, l21, l22, l23] (.long J1 :: st) H Q = M25 263 [l0, l1, l2, l3, l4, l5, l6, l7, l8, l9, l10, .val (.long J1), .second, l13, l14, l15, l16, l17, l18, l19, l20, l21, l22, l23] st H Q := w_x at_261 rfl
theorem m25_263 : M25 263 [l0, l1, l2, l3, l4, l5, l6, l7, l8, l9, l10, l11, l12, .val (.int v), l14, l15, l16, l17, l18, l19, l20, l21, l22, l23] st H Q = M25 266 [l0, l1, l2, l3, l4, l5, l6, l7, l8, l9, l10, l11, l12, .val (.int (v + 1)), l14, l15, l16, l17, l18, l19, l20, l21, l22, l23] st H Q := w_iinc at_263 rfl (by decide) rfl
theorem m25_266 : M25 266 ls st H Q = M25 388 ls st H Q := w_x at_266 rfl
theorem m25_269 : M25 269 [l0, l1, l2, l3, l4, l5, l6, l7, l8, l9, l10, l11, l12, l13, l14, l15, l16, l17, .val (.int v), l19, l20, l21, l22, l23] st H Q = M25 271 [l0, l1, l2, l3, l4, l5, l6, l7, l8, l9, l10, l11, l12, l13, l14, l15, l16, l17, .val (.int v), l19, l20, l21, l22, l23] (.int v :: st) H Q := w_x at_269 rfl
theorem m25_271 : M25 271 ls st H Q = M25 272 ls (.int 5 :: st) H Q := w_con at_271 rfl (by decide)
theorem m25_272 : M25 272 ls (.int y :: .int x :: st) H Q = if x = y then M25 275 ls st H Q else M25 310 ls st H Q := w_icmpN at_272 (i_ne x y) rfl
theorem m25_275 : M25 275 [l0, l1, l2, l3, .val (.ref r), l5, l6, l7, l8, l9, l10, l11, l12, l13, l14, l15, l16, l17, l18, l19, l20, l21, l22, l23] st H Q = M25 277 [l0, l1, l2, l3, .val (.ref r), l5, l6, l7, l8, l9, l10, l11, l12, l13, l14, l15, l16, l17, l18, l19, l20, l21, l22, l23] (.ref r :: st) H Q := w_x at_275 rfl
theorem cr25_38 : vR tables_1 dn y25 38 = some (false, y18, prog_1_method_5_code, 1, none, 0, 53) := vR_of (cR_of (by decide +kernel) rc_18 dn_18 dn_25 (sig := ⟨[], none⟩) (by decide +kernel) (by decide +kernel) rfl rfl) (by decide +kernel) (by decide +kernel) (by decide +kernel)
theorem m25_277 : M25 277 ls [.ref (b + 1)] (put (b + 1) pre s A post) Q = M18 0 [.val (.ref (b + 1))] [] (put (b + 1) pre s A post) (fun v H1 => M25 280 ls (v.toList ++ []) H1 Q) := w_virt (as := []) (rest := []) (a := (b + 1)) at_277 cr25_38 put_o rfl rfl (Nat.le_of_ble_eq_true rfl) (by show 1 ≤ 1; omega) rfl
theorem m25_280 : M25 280 ls st H Q = M25 281 ls (.long 0 :: st) H Q := w_con at_280 rfl (by decide)
theorem m25_281 : M25 281 [l0, l1, l2, l3, l4, .val (.long J2), .second, l7, l8, l9, l10, l11, l12, l13, l14, l15, l16, l17, l18, l19, l20, l21, l22, l23] (.long J1 :: st) H Q = M25 283 [l0, l1, l2, l3, l4, .val (.long J1), .second, l7, l8, l9, l10, l11, l12, l13, l14, l15, l16, l17, l18, l19, l20, l21, l22, l23] st H Q := w_x at_281 rfl
theorem m25_283 : M25 283 ls st H Q = M25 284 ls (.long 0 :: st) H Q := w_con at_283 rfl (by decide)
theorem m25_284 : M25 284 [l0, l1, l2, l3, l4, l5, l6, .val (.long J2), .second, l9, l10, l11, l12, l13, l14, l15, l16, l17, l18, l19, l20, l21, l22, l23] (.long J1 :: st) H Q = M25 286 [l0, l1, l2, l3, l4, l5, l6, .val (.long J1), .second, l9, l10, l11, l12, l13, l14, l15, l16, l17, l18, l19, l20, l21, l22, l23] st H Q := w_x at_284 rfl
theorem m25_286 : M25 286 ls st H Q = M25 287 ls (.long 0 :: st) H Q := w_con at_286 rfl (by decide)
theorem m25_287 : M25 287 [l0, l1, l2, l3, l4, l5, l6, l7, l8, .val (.long J2), .second, l11, l12, l13, l14, l15, l16, l17, l18, l19, l20, l21, l22, l23] (.long J1 :: st) H Q = M25 289 [l0, l1, l2, l3, l4, l5, l6, l7, l8, .val (.long J1), .second, l11, l12, l13, l14, l15, l16, l17, l18, l19, l20, l21, l22, l23] st H Q := w_x at_287 rfl
theorem m25_289 : M25 289 ls st H Q = M25 290 ls (.long 0 :: st) H Q := w_con at_289 rfl (by decide)
theorem m25_290 : M25 290 [l0, l1, l2, l3, l4, l5, l6, l7, l8, l9, l10, .val (.long J2), .second, l13, l14, l15, l16, l17, l18, l19, l20, l21, l22, l23] (.long J1 :: st) H Q = M25 292 [l0, l1, l2, l3, l4, l5, l6, l7, l8, l9, l10, .val (.long J1), .second, l13, l14, l15, l16, l17, l18, l19, l20, l21, l22, l23] st H Q := w_x at_290 rfl
theorem m25_292 : M25 292 ls st H Q = M25 293 ls (.int 0 :: st) H Q := w_con at_292 rfl (by decide)
theorem m25_293i : M25 293 [l0, l1, l2, l3, l4, l5, l6, l7, l8, l9, l10, l11, l12, .val (.int z), l14, l15, l16, l17, l18, l19, l20, l21, l22, l23] ((.int v) :: st) H Q = M25 295 [l0, l1, l2, l3, l4, l5, l6, l7, l8, l9, l10, l11, l12, .val (.int v), l14, l15, l16, l17, l18, l19, l20, l21, l22, l23] st H Q := w_st (i := 13) (p := isI) at_293 rfl rfl rfl rfl rfl rfl
theorem m25_295 : M25 295 [l0, l1, l2, l3, l4, l5, l6, l7, l8, l9, l10, l11, l12, l13, l14, l15, l16, l17, l18, .val (.int v), l20, l21, l22, l23] st H Q = M25 297 [l0, l1, l2, l3, l4, l5, l6, l7, l8, l9, l10, l11, l12, l13, l14, l15, l16, l17, l18, .val (.int v), l20, l21, l22, l23] (.int v :: st) H Q := w_x at_295 rfl
theorem m25_297 : M25 297 [l0, l1, l2, l3, .val (.ref r), l5, l6, l7, l8, l9, l10, l11, l12, l13, l14, l15, l16, l17, l18, l19, l20, l21, l22, l23] st H Q = M25 299 [l0, l1, l2, l3, .val (.ref r), l5, l6, l7, l8, l9, l10, l11, l12, l13, l14, l15, l16, l17, l18, l19, l20, l21, l22, l23] (.ref r :: st) H Q := w_x at_297 rfl
theorem cr25_41 : vR tables_1 dn y25 41 = some (false, y3, prog_1_method_3_code, 1, (some .int), 0, 53) := vR_of (cR_of (by decide +kernel) rc_3 dn_3 dn_25 (sig := ⟨[], some .int⟩) (by decide +kernel) (by decide +kernel) rfl rfl) (by decide +kernel) (by decide +kernel) (by decide +kernel)
theorem m25_299 (u0 : Int32) : M25 299 ls [.ref (b + 1), .int u0] (put (b + 1) pre s A post) Q = M3 0 [.val (.ref (b + 1))] [] (put (b + 1) pre s A post) (fun v H1 => M25 302 ls (v.toList ++ [.int u0]) H1 Q) := w_virt (as := []) (rest := [.int u0]) (a := (b + 1)) at_299 cr25_41 put_o rfl rfl (Nat.le_of_ble_eq_true rfl) (by show 1 ≤ 1; omega) rfl
theorem m25_302 : M25 302 ls st H Q = M25 303 ls (.int 1 :: st) H Q := w_con at_302 rfl (by decide)
theorem m25_303 : M25 303 ls (.int y :: .int x :: st) H Q = M25 304 ls (.int (x + y) :: st) H Q := w_x at_303 rfl
theorem m25_304 : M25 304 ls (.int y :: .int x :: st) H Q = (y ≠ 0 ∧ M25 305 ls (.int (x % y) :: st) H Q) := w_div (f := fun x y => x % y) at_304 (fun _ => rfl) rfl rfl
theorem m25_305i : M25 305 [l0, l1, l2, l3, l4, l5, l6, l7, l8, l9, l10, l11, l12, l13, .val (.int z), l15, l16, l17, l18, l19, l20, l21, l22, l23] ((.int v) :: st) H Q = M25 307 [l0, l1, l2, l3, l4, l5, l6, l7, l8, l9, l10, l11, l12, l13, .val (.int v), l15, l16, l17, l18, l19, l20, l21, l22, l23] st H Q := w_st (i := 14) (p := isI) at_305 rfl rfl rfl rfl rfl rfl
theorem m25_307 : M25 307 ls st H Q = M25 388 ls st H Q := w_x at_307 rfl
theorem m25_310 : M25 310 [l0, l1, l2, l3, l4, l5, l6, l7, l8, l9, l10, l11, l12, l13, l14, l15, l16, l17, .val (.int v), l19, l20, l21, l22, l23] st H Q = M25 312 [l0, l1, l2, l3, l4, l5, l6, l7, l8, l9, l10, l11, l12, l13, l14, l15, l16, l17, .val (.int v), l19, l20, l21, l22, l23] (.int v :: st) H Q := w_x at_310 rfl
theorem m25_312 : M25 312 ls st H Q = M25 314 ls (.int 6 :: st) H Q := w_con at_312 rfl (by decide)
theorem m25_314 : M25 314 ls (.int y :: .int x :: st) H Q = if x = y then M25 317 ls st H Q else M25 364 ls st H Q := w_icmpN at_314 (i_ne x y) rfl
theorem m25_317 : M25 317 [l0, l1, l2, l3, l4, l5, l6, l7, l8, l9, l10, l11, l12, l13, l14, l15, l16, l17, l18, .val (.int v), l20, l21, l22, l23] st H Q = M25 319 [l0, l1, l2, l3, l4, l5, l6, l7, l8, l9, l10, l11, l12, l13, l14, l15, l16, l17, l18, .val (.int v), l20, l21, l22, l23] (.int v :: st) H Q := w_x at_317 rfl
theorem m25_319 : M25 319 ls st H Q = M25 321 ls (.int 8 :: st) H Q := w_con at_319 rfl (by decide)
theorem m25_321 : M25 321 ls (.int y :: .int x :: st) H Q = (y ≠ 0 ∧ M25 322 ls (.int (x % y) :: st) H Q) := w_div (f := fun x y => x % y) at_321 (fun _ => rfl) rfl rfl
theorem m25_322 : M25 322 ls (.int x :: st) H Q = if x = 0 then M25 325 ls st H Q else M25 351 ls st H Q := w_ifN at_322 (z_ne x) rfl
theorem m25_325 : M25 325 [l0, l1, l2, l3, .val (.ref r), l5, l6, l7, l8, l9, l10, l11, l12, l13, l14, l15, l16, l17, l18, l19, l20, l21, l22, l23] st H Q = M25 327 [l0, l1, l2, l3, .val (.ref r), l5, l6, l7, l8, l9, l10, l11, l12, l13, l14, l15, l16, l17, l18, l19, l20, l21, l22, l23] (.ref r :: st) H Q := w_x at_325 rfl
theorem cr25_45 : vR tables_1 dn y25 45 = some (false, y20, prog_1_method_17_code, 1, none, 0, 26) := vR_of (cR_of (by decide +kernel) rc_20 dn_20 dn_25 (sig := ⟨[], none⟩) (by decide +kernel) (by decide +kernel) rfl rfl) (by decide +kernel) (by decide +kernel) (by decide +kernel)
theorem m25_327 : M25 327 ls [.ref (b + 1)] (put (b + 1) pre s A post) Q = M20 0 [.val (.ref (b + 1))] [] (put (b + 1) pre s A post) (fun v H1 => M25 330 ls (v.toList ++ []) H1 Q) := w_virt (as := []) (rest := []) (a := (b + 1)) at_327 cr25_45 put_o rfl rfl (Nat.le_of_ble_eq_true rfl) (by show 1 ≤ 1; omega) rfl
theorem m25_330 : M25 330 ls st H Q = M25 331 ls (.long 0 :: st) H Q := w_con at_330 rfl (by decide)
theorem m25_331 : M25 331 [l0, l1, l2, l3, l4, .val (.long J2), .second, l7, l8, l9, l10, l11, l12, l13, l14, l15, l16, l17, l18, l19, l20, l21, l22, l23] (.long J1 :: st) H Q = M25 333 [l0, l1, l2, l3, l4, .val (.long J1), .second, l7, l8, l9, l10, l11, l12, l13, l14, l15, l16, l17, l18, l19, l20, l21, l22, l23] st H Q := w_x at_331 rfl
theorem m25_333 : M25 333 ls st H Q = M25 334 ls (.long 0 :: st) H Q := w_con at_333 rfl (by decide)
theorem m25_334 : M25 334 [l0, l1, l2, l3, l4, l5, l6, .val (.long J2), .second, l9, l10, l11, l12, l13, l14, l15, l16, l17, l18, l19, l20, l21, l22, l23] (.long J1 :: st) H Q = M25 336 [l0, l1, l2, l3, l4, l5, l6, .val (.long J1), .second, l9, l10, l11, l12, l13, l14, l15, l16, l17, l18, l19, l20, l21, l22, l23] st H Q := w_x at_334 rfl
theorem m25_336 : M25 336 ls st H Q = M25 337 ls (.long 0 :: st) H Q := w_con at_336 rfl (by decide)
theorem m25_337 : M25 337 [l0, l1, l2, l3, l4, l5, l6, l7, l8, .val (.long J2), .second, l11, l12, l13, l14, l15, l16, l17, l18, l19, l20, l21, l22, l23] (.long J1 :: st) H Q = M25 339 [l0, l1, l2, l3, l4, l5, l6, l7, l8, .val (.long J1), .second, l11, l12, l13, l14, l15, l16, l17, l18, l19, l20, l21, l22, l23] st H Q := w_x at_337 rfl
theorem m25_339 : M25 339 ls st H Q = M25 340 ls (.long 0 :: st) H Q := w_con at_339 rfl (by decide)
theorem m25_340 : M25 340 [l0, l1, l2, l3, l4, l5, l6, l7, l8, l9, l10, .val (.long J2), .second, l13, l14, l15, l16, l17, l18, l19, l20, l21, l22, l23] (.long J1 :: st) H Q = M25 342 [l0, l1, l2, l3, l4, l5, l6, l7, l8, l9, l10, .val (.long J1), .second, l13, l14, l15, l16, l17, l18, l19, l20, l21, l22, l23] st H Q := w_x at_340 rfl
theorem m25_342 : M25 342 ls st H Q = M25 343 ls (.int 0 :: st) H Q := w_con at_342 rfl (by decide)
theorem m25_343i : M25 343 [l0, l1, l2, l3, l4, l5, l6, l7, l8, l9, l10, l11, l12, .val (.int z), l14, l15, l16, l17, l18, l19, l20, l21, l22, l23] ((.int v) :: st) H Q = M25 345 [l0, l1, l2, l3, l4, l5, l6, l7, l8, l9, l10, l11, l12, .val (.int v), l14, l15, l16, l17, l18, l19, l20, l21, l22, l23] st H Q := w_st (i := 13) (p := isI) at_343 rfl rfl rfl rfl rfl rfl
theorem m25_345 : M25 345 ls st H Q = M25 346 ls (.int 0 :: st) H Q := w_con at_345 rfl (by decide)
theorem m25_346i : M25 346 [l0, l1, l2, l3, l4, l5, l6, l7, l8, l9, l10, l11, l12, l13, .val (.int z), l15, l16, l17, l18, l19, l20, l21, l22, l23] ((.int v) :: st) H Q = M25 348 [l0, l1, l2, l3, l4, l5, l6, l7, l8, l9, l10, l11, l12, l13, .val (.int v), l15, l16, l17, l18, l19, l20, l21, l22, l23] st H Q := w_st (i := 14) (p := isI) at_346 rfl rfl rfl rfl rfl rfl
theorem m25_348 : M25 348 ls st H Q = M25 388 ls st H Q := w_x at_348 rfl
theorem m25_351 : M25 351 [l0, l1, l2, l3, .val (.ref r), l5, l6, l7, l8, l9, l10, l11, l12, l13, l14, l15, l16, l17, l18, l19, l20, l21, l22, l23] st H Q = M25 353 [l0, l1, l2, l3, .val (.ref r), l5, l6, l7, l8, l9, l10, l11, l12, l13, l14, l15, l16, l17, l18, l19, l20, l21, l22, l23] (.ref r :: st) H Q := w_x at_351 rfl
theorem m25_353 : M25 353 [l0, l1, l2, l3, l4, l5, l6, l7, l8, l9, l10, l11, l12, l13, l14, l15, l16, l17, l18, .val (.int v), l20, l21, l22, l23] st H Q = M25 355 [l0, l1, l2, l3, l4, l5, l6, l7, l8, l9, l10, l11, l12, l13, l14, l15, l16, l17, l18, .val (.int v), l20, l21, l22, l23] (.int v :: st) H Q := w_x at_353 rfl
theorem m25_355 : M25 355 [l0, l1, l2, .val (.int v), l4, l5, l6, l7, l8, l9, l10, l11, l12, l13, l14, l15, l16, l17, l18, l19, l20, l21, l22, l23] st H Q = M25 356 [l0, l1, l2, .val (.int v), l4, l5, l6, l7, l8, l9, l10, l11, l12, l13, l14, l15, l16, l17, l18, l19, l20, l21, l22, l23] (.int v :: st) H Q := w_x at_355 rfl
theorem m25_356 : M25 356 ls (.int y :: .int x :: st) H Q = (y ≠ 0 ∧ M25 357 ls (.int (x % y) :: st) H Q) := w_div (f := fun x y => x % y) at_356 (fun _ => rfl) rfl rfl
theorem m25_357 (a0 : Int32) : M25 357 ls [.int a0, .ref (b + 1)] (put (b + 1) pre s A post) Q = M8 0 [.val (.ref (b + 1)), .val (.int a0)] [] (put (b + 1) pre s A post) (fun v H1 => M25 360 ls (v.toList ++ []) H1 Q) := w_virt (as := [.int a0]) (rest := []) (a := (b + 1)) at_357 cr25_28 put_o rfl rfl (Nat.le_of_ble_eq_true rfl) (by show 2 ≤ 2; omega) rfl
theorem m25_360 : M25 360 ls ((.int v) :: st) H Q = M25 361 ls st H Q := w_x at_360 rfl
theorem m25_361 : M25 361 ls st H Q = M25 388 ls st H Q := w_x at_361 rfl
theorem m25_364 : M25 364 [l0, l1, l2, l3, l4, l5, l6, l7, l8, l9, l10, l11, l12, l13, l14, l15, l16, l17, l18, .val (.int v), l20, l21, l22, l23] st H Q = M25 366 [l0, l1, l2, l3, l4, l5, l6, l7, l8, l9, l10, l11, l12, l13, l14, l15, l16, l17, l18, .val (.int v), l20, l21, l22, l23] (.int v :: st) H Q := w_x at_364 rfl
theorem m25_366 : M25 366 ls st H Q = M25 367 ls (.int 1 :: st) H Q := w_con at_366 rfl (by decide)
theorem m25_367 : M25 367 ls (.int y :: .int x :: st) H Q = M25 368 ls (.int (x &&& y) :: st) H Q := w_x at_367 rfl
theorem m25_368 : M25 368 ls (.int x :: st) H Q = if x = 0 then M25 371 ls st H Q else M25 376 ls st H Q := w_ifN at_368 (z_ne x) rfl
theorem m25_371 : M25 371 [l0, l1, l2, l3, .val (.ref r), l5, l6, l7, l8, l9, l10, l11, l12, l13, l14, l15, l16, l17, l18, l19, l20, l21, l22, l23] st H Q = M25 373 [l0, l1, l2, l3, .val (.ref r), l5, l6, l7, l8, l9, l10, l11, l12, l13, l14, l15, l16, l17, l18, l19, l20, l21, l22, l23] (.ref r :: st) H Q := w_x at_371 rfl
theorem cr25_48 : vR tables_1 dn y25 48 = some (false, y16, prog_1_method_13_code, 1, none, 0, 53) := vR_of (cR_of (by decide +kernel) rc_16 dn_16 dn_25 (sig := ⟨[], none⟩) (by decide +kernel) (by decide +kernel) rfl rfl) (by decide +kernel) (by decide +kernel) (by decide +kernel)
theorem m25_373 : M25 373 ls [.ref (b + 1)] (put (b + 1) pre s A post) Q = M16 0 [.val (.ref (b + 1))] [] (put (b + 1) pre s A post) (fun v H1 => M25 376 ls (v.toList ++ []) H1 Q) := w_virt (as := []) (rest := []) (a := (b + 1)) at_373 cr25_48 put_o rfl rfl (Nat.le_of_ble_eq_true rfl) (by show 1 ≤ 1; omega) rfl
theorem m25_376 : M25 376 [l0, l1, l2, l3, .val (.ref r), l5, l6, l7, l8, l9, l10, l11, l12, l13, l14, l15, l16, l17, l18, l19, l20, l21, l22, l23] st H Q = M25 378 [l0, l1, l2, l3, .val (.ref r), l5, l6, l7, l8, l9, l10, l11, l12, l13, l14, l15, l16, l17, l18, l19, l20, l21, l22, l23] (.ref r :: st) H Q := w_x at_376 rfl
theorem m25_378 : M25 378 [l0, l1, l2, l3, l4, l5, l6, l7, l8, l9, l10, l11, l12, l13, l14, l15, l16, l17, l18, .val (.int v), l20, l21, l22, l23] st H Q = M25 380 [l0, l1, l2, l3, l4, l5, l6, l7, l8, l9, l10, l11, l12, l13, l14, l15, l16, l17, l18, .val (.int v), l20, l21, l22, l23] (.int v :: st) H Q := w_x at_378 rfl
theorem m25_380 : M25 380 ls st H Q = M25 381 ls (.int 1 :: st) H Q := w_con at_380 rfl (by decide)
theorem m25_381 : M25 381 ls (.int y :: .int x :: st) H Q = M25 382 ls (.int (XT.ushr x y) :: st) H Q := w_x at_381 rfl
theorem m25_382 : M25 382 [l0, l1, l2, .val (.int v), l4, l5, l6, l7, l8, l9, l10, l11, l12, l13, l14, l15, l16, l17, l18, l19, l20, l21, l22, l23] st H Q = M25 383 [l0, l1, l2, .val (.int v), l4, l5, l6, l7, l8, l9, l10, l11, l12, l13, l14, l15, l16, l17, l18, l19, l20, l21, l22, l23] (.int v :: st) H Q := w_x at_382 rfl
theorem m25_383 : M25 383 ls (.int y :: .int x :: st) H Q = (y ≠ 0 ∧ M25 384 ls (.int (x % y) :: st) H Q) := w_div (f := fun x y => x % y) at_383 (fun _ => rfl) rfl rfl
theorem cr25_51 : vR tables_1 dn y25 51 = some (false, y17, prog_1_method_14_code, 2, (some .boolean), 1, 52) := vR_of (cR_of (by decide +kernel) rc_17 dn_17 dn_25 (sig := ⟨[.int], some .boolean⟩) (by decide +kernel) (by decide +kernel) rfl rfl) (by decide +kernel) (by decide +kernel) (by decide +kernel)
theorem m25_384 (a0 : Int32) : M25 384 ls [.int a0, .ref (b + 1)] (put (b + 1) pre s A post) Q = M17 0 [.val (.ref (b + 1)), .val (.int a0)] [] (put (b + 1) pre s A post) (fun v H1 => M25 387 ls (v.toList ++ []) H1 Q) := w_virt (as := [.int a0]) (rest := []) (a := (b + 1)) at_384 cr25_51 put_o rfl rfl (Nat.le_of_ble_eq_true rfl) (by show 2 ≤ 2; omega) rfl
theorem m25_387 : M25 387 ls ((.int v) :: st) H Q = M25 388 ls st H Q := w_x at_387 rfl
theorem m25_388 : M25 388 [l0, l1, l2, l3, .val (.ref r), l5, l6, l7, l8, l9, l10, l11, l12, l13, l14, l15, l16, l17, l18, l19, l20, l21, l22, l23] st H Q = M25 390 [l0, l1, l2, l3, .val (.ref r), l5, l6, l7, l8, l9, l10, l11, l12, l13, l14, l15, l16, l17, l18, l19, l20, l21, l22, l23] (.ref r :: st) H Q := w_x at_388 rfl
theorem m25_390 : M25 390 ls [.ref (b + 1)] (put (b + 1) pre s A post) Q = M3 0 [.val (.ref (b + 1))] [] (put (b + 1) pre s A post) (fun v H1 => M25 393 ls (v.toList ++ []) H1 Q) := w_virt (as := []) (rest := []) (a := (b + 1)) at_390 cr25_41 put_o rfl rfl (Nat.le_of_ble_eq_true rfl) (by show 1 ≤ 1; omega) rfl
theorem m25_393u : M25 393 [l0, l1, l2, l3, l4, l5, l6, l7, l8, l9, l10, l11, l12, l13, l14, l15, l16, .unset, l18, l19, l20, l21, l22, l23] ((.int v) :: st) H Q = M25 395 [l0, l1, l2, l3, l4, l5, l6, l7, l8, l9, l10, l11, l12, l13, l14, l15, l16, .val (.int v), l18, l19, l20, l21, l22, l23] st H Q := w_st (i := 17) (p := isI) at_393 rfl rfl rfl rfl rfl rfl
theorem m25_393i : M25 393 [l0, l1, l2, l3, l4, l5, l6, l7, l8, l9, l10, l11, l12, l13, l14, l15, l16, .val (.int z), l18, l19, l20, l21, l22, l23] ((.int v) :: st) H Q = M25 395 [l0, l1, l2, l3, l4, l5, l6, l7, l8, l9, l10, l11, l12, l13, l14, l15, l16, .val (.int v), l18, l19, l20, l21, l22, l23] st H Q := w_st (i := 17) (p := isI) at_393 rfl rfl rfl rfl rfl rfl
theorem m25_393r : M25 393 [l0, l1, l2, l3, l4, l5, l6, l7, l8, l9, l10, l11, l12, l13, l14, l15, l16, .val (.ref q), l18, l19, l20, l21, l22, l23] ((.int v) :: st) H Q = M25 395 [l0, l1, l2, l3, l4, l5, l6, l7, l8, l9, l10, l11, l12, l13, l14, l15, l16, .val (.int v), l18, l19, l20, l21, l22, l23] st H Q := w_st (i := 17) (p := isI) at_393 rfl rfl rfl rfl rfl rfl
theorem m25_393g (h : okS l17) : M25 393 [l0, l1, l2, l3, l4, l5, l6, l7, l8, l9, l10, l11, l12, l13, l14, l15, l16, l17, l18, l19, l20, l21, l22, l23] ((.int v) :: st) H Q = M25 395 [l0, l1, l2, l3, l4, l5, l6, l7, l8, l9, l10, l11, l12, l13, l14, l15, l16, .val (.int v), l18, l19, l20, l21, l22, l23] st H Q := by rcases h with rfl | ⟨z, rfl⟩ <;> first | exact m25_393u | exact m25_393i
theorem m25_395 : M25 395 [l0, l1, l2, l3, .val (.ref r), l5, l6, l7, l8, l9, l10, l11, l12, l13, l14, l15, l16, l17, l18, l19, l20, l21, l22, l23] st H Q = M25 397 [l0, l1, l2, l3, .val (.ref r), l5, l6, l7, l8, l9, l10, l11, l12, l13, l14, l15, l16, l17, l18, l19, l20, l21, l22, l23] (.ref r :: st) H Q := w_x at_395 rfl
theorem cr25_54 : vR tables_1 dn y25 54 = some (false, y4, prog_1_method_7_code, 1, (some .int), 0, 53) := vR_of (cR_of (by decide +kernel) rc_4 dn_4 dn_25 (sig := ⟨[], some .int⟩) (by decide +kernel) (by decide +kernel) rfl rfl) (by decide +kernel) (by decide +kernel) (by decide +kernel)
theorem m25_397 : M25 397 ls [.ref (b + 1)] (put (b + 1) pre s A post) Q = M4 0 [.val (.ref (b + 1))] [] (put (b + 1) pre s A post) (fun v H1 => M25 400 ls (v.toList ++ []) H1 Q) := w_virt (as := []) (rest := []) (a := (b + 1)) at_397 cr25_54 put_o rfl rfl (Nat.le_of_ble_eq_true rfl) (by show 1 ≤ 1; omega) rfl
theorem m25_400u : M25 400 [l0, l1, l2, l3, l4, l5, l6, l7, l8, l9, l10, l11, l12, l13, l14, l15, l16, l17, .unset, l19, l20, l21, l22, l23] ((.int v) :: st) H Q = M25 402 [l0, l1, l2, l3, l4, l5, l6, l7, l8, l9, l10, l11, l12, l13, l14, l15, l16, l17, .val (.int v), l19, l20, l21, l22, l23] st H Q := w_st (i := 18) (p := isI) at_400 rfl rfl rfl rfl rfl rfl
theorem m25_400i : M25 400 [l0, l1, l2, l3, l4, l5, l6, l7, l8, l9, l10, l11, l12, l13, l14, l15, l16, l17, .val (.int z), l19, l20, l21, l22, l23] ((.int v) :: st) H Q = M25 402 [l0, l1, l2, l3, l4, l5, l6, l7, l8, l9, l10, l11, l12, l13, l14, l15, l16, l17, .val (.int v), l19, l20, l21, l22, l23] st H Q := w_st (i := 18) (p := isI) at_400 rfl rfl rfl rfl rfl rfl
theorem m25_400r : M25 400 [l0, l1, l2, l3, l4, l5, l6, l7, l8, l9, l10, l11, l12, l13, l14, l15, l16, l17, .val (.ref q), l19, l20, l21, l22, l23] ((.int v) :: st) H Q = M25 402 [l0, l1, l2, l3, l4, l5, l6, l7, l8, l9, l10, l11, l12, l13, l14, l15, l16, l17, .val (.int v), l19, l20, l21, l22, l23] st H Q := w_st (i := 18) (p := isI) at_400 rfl rfl rfl rfl rfl rfl
theorem m25_400g (h : okS l18) : M25 400 [l0, l1, l2, l3, l4, l5, l6, l7, l8, l9, l10, l11, l12, l13, l14, l15, l16, l17, l18, l19, l20, l21, l22, l23] ((.int v) :: st) H Q = M25 402 [l0, l1, l2, l3, l4, l5, l6, l7, l8, l9, l10, l11, l12, l13, l14, l15, l16, l17, .val (.int v), l19, l20, l21, l22, l23] st H Q := by rcases h with rfl | ⟨z, rfl⟩ <;> first | exact m25_400u | exact m25_400i
theorem m25_402 : M25 402 [l0, l1, l2, l3, l4, l5, l6, l7, l8, l9, l10, l11, l12, l13, l14, l15, l16, l17, .val (.int v), l19, l20, l21, l22, l23] st H Q = M25 404 [l0, l1, l2, l3, l4, l5, l6, l7, l8, l9, l10, l11, l12, l13, l14, l15, l16, l17, .val (.int v), l19, l20, l21, l22, l23] (.int v :: st) H Q := w_x at_402 rfl
theorem m25_404 : M25 404 [l0, l1, l2, l3, l4, l5, l6, l7, l8, l9, l10, l11, l12, .val (.int v), l14, l15, l16, l17, l18, l19, l20, l21, l22, l23] st H Q = M25 406 [l0, l1, l2, l3, l4, l5, l6, l7, l8, l9, l10, l11, l12, .val (.int v), l14, l15, l16, l17, l18, l19, l20, l21, l22, l23] (.int v :: st) H Q := w_x at_404 rfl
theorem m25_406 : M25 406 ls (.int y :: .int x :: st) H Q = if x = y then M25 411 ls st H Q else M25 409 ls st H Q := w_icmp at_406 (i_eq x y) rfl
theorem m25_409 : M25 409 ls st H Q = M25 410 ls (.int 0 :: st) H Q := w_con at_409 rfl (by decide)
theorem m25_410 : M25 410 ls (.int z :: st) H Q = Q (some (.int (nar .boolean z))) H := w_iretN at_410 rfl (by simp)
theorem m25_411 : M25 411 ls st H Q = M25 412 ls (.int 0 :: st) H Q := w_con at_411 rfl (by decide)
theorem m25_412u : M25 412 [l0, l1, l2, l3, l4, l5, l6, l7, l8, l9, l10, l11, l12, l13, l14, l15, l16, l17, l18, .unset, l20, l21, l22, l23] ((.int v) :: st) H Q = M25 414 [l0, l1, l2, l3, l4, l5, l6, l7, l8, l9, l10, l11, l12, l13, l14, l15, l16, l17, l18, .val (.int v), l20, l21, l22, l23] st H Q := w_st (i := 19) (p := isI) at_412 rfl rfl rfl rfl rfl rfl
theorem m25_412i : M25 412 [l0, l1, l2, l3, l4, l5, l6, l7, l8, l9, l10, l11, l12, l13, l14, l15, l16, l17, l18, .val (.int z), l20, l21, l22, l23] ((.int v) :: st) H Q = M25 414 [l0, l1, l2, l3, l4, l5, l6, l7, l8, l9, l10, l11, l12, l13, l14, l15, l16, l17, l18, .val (.int v), l20, l21, l22, l23] st H Q := w_st (i := 19) (p := isI) at_412 rfl rfl rfl rfl rfl rfl
theorem m25_412r : M25 412 [l0, l1, l2, l3, l4, l5, l6, l7, l8, l9, l10, l11, l12, l13, l14, l15, l16, l17, l18, .val (.ref q), l20, l21, l22, l23] ((.int v) :: st) H Q = M25 414 [l0, l1, l2, l3, l4, l5, l6, l7, l8, l9, l10, l11, l12, l13, l14, l15, l16, l17, l18, .val (.int v), l20, l21, l22, l23] st H Q := w_st (i := 19) (p := isI) at_412 rfl rfl rfl rfl rfl rfl
theorem m25_412g (h : okS l19) : M25 412 [l0, l1, l2, l3, l4, l5, l6, l7, l8, l9, l10, l11, l12, l13, l14, l15, l16, l17, l18, l19, l20, l21, l22, l23] ((.int v) :: st) H Q = M25 414 [l0, l1, l2, l3, l4, l5, l6, l7, l8, l9, l10, l11, l12, l13, l14, l15, l16, l17, l18, .val (.int v), l20, l21, l22, l23] st H Q := by rcases h with rfl | ⟨z, rfl⟩ <;> first | exact m25_412u | exact m25_412i
theorem m25_414 : M25 414 ls st H Q = M25 415 ls (.int (-1) :: st) H Q := w_con at_414 rfl (by decide)
theorem m25_415u : M25 415 [l0, l1, l2, l3, l4, l5, l6, l7, l8, l9, l10, l11, l12, l13, l14, l15, l16, l17, l18, l19, .unset, l21, l22, l23] ((.int v) :: st) H Q = M25 417 [l0, l1, l2, l3, l4, l5, l6, l7, l8, l9, l10, l11, l12, l13, l14, l15, l16, l17, l18, l19, .val (.int v), l21, l22, l23] st H Q := w_st (i := 20) (p := isI) at_415 rfl rfl rfl rfl rfl rfl
theorem m25_415i : M25 415 [l0, l1, l2, l3, l4, l5, l6, l7, l8, l9, l10, l11, l12, l13, l14, l15, l16, l17, l18, l19, .val (.int z), l21, l22, l23] ((.int v) :: st) H Q = M25 417 [l0, l1, l2, l3, l4, l5, l6, l7, l8, l9, l10, l11, l12, l13, l14, l15, l16, l17, l18, l19, .val (.int v), l21, l22, l23] st H Q := w_st (i := 20) (p := isI) at_415 rfl rfl rfl rfl rfl rfl
theorem m25_415r : M25 415 [l0, l1, l2, l3, l4, l5, l6, l7, l8, l9, l10, l11, l12, l13, l14, l15, l16, l17, l18, l19, .val (.ref q), l21, l22, l23] ((.int v) :: st) H Q = M25 417 [l0, l1, l2, l3, l4, l5, l6, l7, l8, l9, l10, l11, l12, l13, l14, l15, l16, l17, l18, l19, .val (.int v), l21, l22, l23] st H Q := w_st (i := 20) (p := isI) at_415 rfl rfl rfl rfl rfl rfl
theorem m25_415g (h : okS l20) : M25 415 [l0, l1, l2, l3, l4, l5, l6, l7, l8, l9, l10, l11, l12, l13, l14, l15, l16, l17, l18, l19, l20, l21, l22, l23] ((.int v) :: st) H Q = M25 417 [l0, l1, l2, l3, l4, l5, l6, l7, l8, l9, l10, l11, l12, l13, l14, l15, l16, l17, l18, l19, .val (.int v), l21, l22, l23] st H Q := by rcases h with rfl | ⟨z, rfl⟩ <;> first | exact m25_415u | exact m25_415i
theorem m25_417 : M25 417 ls st H Q = M25 418 ls (.int 0 :: st) H Q := w_con at_417 rfl (by decide)
theorem m25_418u : M25 418 [l0, l1, l2, l3, l4, l5, l6, l7, l8, l9, l10, l11, l12, l13, l14, l15, l16, l17, l18, l19, l20, .unset, l22, l23] ((.int v) :: st) H Q = M25 420 [l0, l1, l2, l3, l4, l5, l6, l7, l8, l9, l10, l11, l12, l13, l14, l15, l16, l17, l18, l19, l20, .val (.int v), l22, l23] st H Q := w_st (i := 21) (p := isI) at_418 rfl rfl rfl rfl rfl rfl
theorem m25_418i : M25 418 [l0, l1, l2, l3, l4, l5, l6, l7, l8, l9, l10, l11, l12, l13, l14, l15, l16, l17, l18, l19, l20, .val (.int z), l22, l23] ((.int v) :: st) H Q = M25 420 [l0, l1, l2, l3, l4, l5, l6, l7, l8, l9, l10, l11, l12, l13, l14, l15, l16, l17, l18, l19, l20, .val (.int v), l22, l23] st H Q := w_st (i := 21) (p := isI) at_418 rfl rfl rfl rfl rfl rfl
theorem m25_418r : M25 418 [l0, l1, l2, l3, l4, l5, l6, l7, l8, l9, l10, l11, l12, l13, l14, l15, l16, l17, l18, l19, l20, .val (.ref q), l22, l23] ((.int v) :: st) H Q = M25 420 [l0, l1, l2, l3, l4, l5, l6, l7, l8, l9, l10, l11, l12, l13, l14, l15, l16, l17, l18, l19, l20, .val (.int v), l22, l23] st H Q := w_st (i := 21) (p := isI) at_418 rfl rfl rfl rfl rfl rfl
theorem m25_418g (h : okS l21) : M25 418 [l0, l1, l2, l3, l4, l5, l6, l7, l8, l9, l10, l11, l12, l13, l14, l15, l16, l17, l18, l19, l20, l21, l22, l23] ((.int v) :: st) H Q = M25 420 [l0, l1, l2, l3, l4, l5, l6, l7, l8, l9, l10, l11, l12, l13, l14, l15, l16, l17, l18, l19, l20, .val (.int v), l22, l23] st H Q := by rcases h with rfl | ⟨z, rfl⟩ <;> first | exact m25_418u | exact m25_418i
theorem m25_420 : M25 420 [l0, l1, l2, l3, l4, l5, l6, l7, l8, l9, l10, l11, l12, l13, l14, l15, l16, l17, l18, l19, l20, .val (.int v), l22, l23] st H Q = M25 422 [l0, l1, l2, l3, l4, l5, l6, l7, l8, l9, l10, l11, l12, l13, l14, l15, l16, l17, l18, l19, l20, .val (.int v), l22, l23] (.int v :: st) H Q := w_x at_420 rfl
theorem m25_422 : M25 422 [l0, l1, l2, l3, l4, l5, l6, l7, l8, l9, l10, l11, l12, l13, l14, l15, l16, l17, .val (.int v), l19, l20, l21, l22, l23] st H Q = M25 424 [l0, l1, l2, l3, l4, l5, l6, l7, l8, l9, l10, l11, l12, l13, l14, l15, l16, l17, .val (.int v), l19, l20, l21, l22, l23] (.int v :: st) H Q := w_x at_422 rfl
theorem m25_424 : M25 424 ls (.int y :: .int x :: st) H Q = M25 425 ls (.int (x + y) :: st) H Q := w_x at_424 rfl
theorem m25_425 : M25 425 [l0, l1, l2, l3, l4, l5, l6, l7, l8, l9, l10, l11, l12, l13, l14, l15, l16, .val (.int v), l18, l19, l20, l21, l22, l23] st H Q = M25 427 [l0, l1, l2, l3, l4, l5, l6, l7, l8, l9, l10, l11, l12, l13, l14, l15, l16, .val (.int v), l18, l19, l20, l21, l22, l23] (.int v :: st) H Q := w_x at_425 rfl
theorem m25_427 : M25 427 ls (.int y :: .int x :: st) H Q = if y < x then M25 504 ls st H Q else M25 430 ls st H Q := w_icmp at_427 (i_gt x y) rfl
theorem m25_430 : M25 430 ls st H Q = M25 431 ls (.int 1 :: st) H Q := w_con at_430 rfl (by decide)
theorem m25_431u : M25 431 [l0, l1, l2, l3, l4, l5, l6, l7, l8, l9, l10, l11, l12, l13, l14, l15, l16, l17, l18, l19, l20, l21, .unset, l23] ((.int v) :: st) H Q = M25 433 [l0, l1, l2, l3, l4, l5, l6, l7, l8, l9, l10, l11, l12, l13, l14, l15, l16, l17, l18, l19, l20, l21, .val (.int v), l23] st H Q := w_st (i := 22) (p := isI) at_431 rfl rfl rfl rfl rfl rfl
theorem m25_431i : M25 431 [l0, l1, l2, l3, l4, l5, l6, l7, l8, l9, l10, l11, l12, l13, l14, l15, l16, l17, l18, l19, l20, l21, .val (.int z), l23] ((.int v) :: st) H Q = M25 433 [l0, l1, l2, l3, l4, l5, l6, l7, l8, l9, l10, l11, l12, l13, l14, l15, l16, l17, l18, l19, l20, l21, .val (.int v), l23] st H Q := w_st (i := 22) (p := isI) at_431 rfl rfl rfl rfl rfl rfl
theorem m25_431r : M25 431 [l0, l1, l2, l3, l4, l5, l6, l7, l8, l9, l10, l11, l12, l13, l14, l15, l16, l17, l18, l19, l20, l21, .val (.ref q), l23] ((.int v) :: st) H Q = M25 433 [l0, l1, l2, l3, l4, l5, l6, l7, l8, l9, l10, l11, l12, l13, l14, l15, l16, l17, l18, l19, l20, l21, .val (.int v), l23] st H Q := w_st (i := 22) (p := isI) at_431 rfl rfl rfl rfl rfl rfl
theorem m25_431g (h : okS l22) : M25 431 [l0, l1, l2, l3, l4, l5, l6, l7, l8, l9, l10, l11, l12, l13, l14, l15, l16, l17, l18, l19, l20, l21, l22, l23] ((.int v) :: st) H Q = M25 433 [l0, l1, l2, l3, l4, l5, l6, l7, l8, l9, l10, l11, l12, l13, l14, l15, l16, l17, l18, l19, l20, l21, .val (.int v), l23] st H Q := by rcases h with rfl | ⟨z, rfl⟩ <;> first | exact m25_431u | exact m25_431i
theorem m25_433 : M25 433 ls st H Q = M25 434 ls (.int 0 :: st) H Q := w_con at_433 rfl (by decide)
theorem m25_434u : M25 434 [l0, l1, l2, l3, l4, l5, l6, l7, l8, l9, l10, l11, l12, l13, l14, l15, l16, l17, l18, l19, l20, l21, l22, .unset] ((.int v) :: st) H Q = M25 436 [l0, l1, l2, l3, l4, l5, l6, l7, l8, l9, l10, l11, l12, l13, l14, l15, l16, l17, l18, l19, l20, l21, l22, .val (.int v)] st H Q := w_st (i := 23) (p := isI) at_434 rfl rfl rfl rfl rfl rfl
theorem m25_434i : M25 434 [l0, l1, l2, l3, l4, l5, l6, l7, l8, l9, l10, l11, l12, l13, l14, l15, l16, l17, l18, l19, l20, l21, l22, .val (.int z)] ((.int v) :: st) H Q = M25 436 [l0, l1, l2, l3, l4, l5, l6, l7, l8, l9, l10, l11, l12, l13, l14, l15, l16, l17, l18, l19, l20, l21, l22, .val (.int v)] st H Q := w_st (i := 23) (p := isI) at_434 rfl rfl rfl rfl rfl rfl
theorem m25_434r : M25 434 [l0, l1, l2, l3, l4, l5, l6, l7, l8, l9, l10, l11, l12, l13, l14, l15, l16, l17, l18, l19, l20, l21, l22, .val (.ref q)] ((.int v) :: st) H Q = M25 436 [l0, l1, l2, l3, l4, l5, l6, l7, l8, l9, l10, l11, l12, l13, l14, l15, l16, l17, l18, l19, l20, l21, l22, .val (.int v)] st H Q := w_st (i := 23) (p := isI) at_434 rfl rfl rfl rfl rfl rfl
theorem m25_434g (h : okS l23) : M25 434 [l0, l1, l2, l3, l4, l5, l6, l7, l8, l9, l10, l11, l12, l13, l14, l15, l16, l17, l18, l19, l20, l21, l22, l23] ((.int v) :: st) H Q = M25 436 [l0, l1, l2, l3, l4, l5, l6, l7, l8, l9, l10, l11, l12, l13, l14, l15, l16, l17, l18, l19, l20, l21, l22, .val (.int v)] st H Q := by rcases h with rfl | ⟨z, rfl⟩ <;> first | exact m25_434u | exact m25_434i
theorem m25_436 : M25 436 [l0, l1, l2, l3, l4, l5, l6, l7, l8, l9, l10, l11, l12, l13, l14, l15, l16, l17, l18, l19, l20, l21, l22, .val (.int v)] st H Q = M25 438 [l0, l1, l2, l3, l4, l5, l6, l7, l8, l9, l10, l11, l12, l13, l14, l15, l16, l17, l18, l19, l20, l21, l22, .val (.int v)] (.int v :: st) H Q := w_x at_436 rfl
theorem m25_438 : M25 438 [l0, l1, l2, l3, l4, l5, l6, l7, l8, l9, l10, l11, l12, l13, l14, l15, l16, l17, .val (.int v), l19, l20, l21, l22, l23] st H Q = M25 440 [l0, l1, l2, l3, l4, l5, l6, l7, l8, l9, l10, l11, l12, l13, l14, l15, l16, l17, .val (.int v), l19, l20, l21, l22, l23] (.int v :: st) H Q := w_x at_438 rfl
theorem m25_440 : M25 440 ls (.int y :: .int x :: st) H Q = if x < y then M25 443 ls st H Q else M25 481 ls st H Q := w_icmpN at_440 (i_ge x y) rfl
theorem m25_443 : M25 443 [l0, l1, l2, l3, .val (.ref r), l5, l6, l7, l8, l9, l10, l11, l12, l13, l14, l15, l16, l17, l18, l19, l20, l21, l22, l23] st H Q = M25 445 [l0, l1, l2, l3, .val (.ref r), l5, l6, l7, l8, l9, l10, l11, l12, l13, l14, l15, l16, l17, l18, l19, l20, l21, l22, l23] (.ref r :: st) H Q := w_x at_443 rfl
theorem m25_445 : M25 445 [l0, l1, l2, l3, l4, l5, l6, l7, l8, l9, l10, l11, l12, l13, l14, l15, l16, l17, l18, l19, l20, .val (.int v), l22, l23] st H Q = M25 447 [l0, l1, l2, l3, l4, l5, l6, l7, l8, l9, l10, l11, l12, l13, l14, l15, l16, l17, l18, l19, l20, .val (.int v), l22, l23] (.int v :: st) H Q := w_x at_445 rfl
theorem m25_447 : M25 447 [l0, l1, l2, l3, l4, l5, l6, l7, l8, l9, l10, l11, l12, l13, l14, l15, l16, l17, l18, l19, l20, l21, l22, .val (.int v)] st H Q = M25 449 [l0, l1, l2, l3, l4, l5, l6, l7, l8, l9, l10, l11, l12, l13, l14, l15, l16, l17, l18, l19, l20, l21, l22, .val (.int v)] (.int v :: st) H Q := w_x at_447 rfl
theorem m25_449 : M25 449 ls (.int y :: .int x :: st) H Q = M25 450 ls (.int (x + y) :: st) H Q := w_x at_449 rfl
theorem m25_450 (a0 : Int32) : M25 450 ls [.int a0, .ref (b + 1)] (put (b + 1) pre s A post) Q = M12 0 [.val (.ref (b + 1)), .val (.int a0)] [] (put (b + 1) pre s A post) (fun v H1 => M25 453 ls (v.toList ++ []) H1 Q) := w_virt (as := [.int a0]) (rest := []) (a := (b + 1)) at_450 cr25_32 put_o rfl rfl (Nat.le_of_ble_eq_true rfl) (by show 2 ≤ 2; omega) rfl
theorem m25_453 : M25 453 [l0, l1, l2, l3, l4, .val (.long J1), l6, l7, l8, l9, l10, l11, l12, l13, l14, l15, l16, l17, l18, l19, l20, l21, l22, l23] st H Q = M25 455 [l0, l1, l2, l3, l4, .val (.long J1), l6, l7, l8, l9, l10, l11, l12, l13, l14, l15, l16, l17, l18, l19, l20, l21, l22, l23] (.long J1 :: st) H Q := w_x at_453 rfl
theorem m25_455 : M25 455 [l0, l1, l2, l3, l4, l5, l6, .val (.long J1), l8, l9, l10, l11, l12, l13, l14, l15, l16, l17, l18, l19, l20, l21, l22, l23] st H Q = M25 457 [l0, l1, l2, l3, l4, l5, l6, .val (.long J1), l8, l9, l10, l11, l12, l13, l14, l15, l16, l17, l18, l19, l20, l21, l22, l23] (.long J1 :: st) H Q := w_x at_455 rfl
theorem m25_457 : M25 457 [l0, l1, l2, l3, l4, l5, l6, l7, l8, .val (.long J1), l10, l11, l12, l13, l14, l15, l16, l17, l18, l19, l20, l21, l22, l23] st H Q = M25 459 [l0, l1, l2, l3, l4, l5, l6, l7, l8, .val (.long J1), l10, l11, l12, l13, l14, l15, l16, l17, l18, l19, l20, l21, l22, l23] (.long J1 :: st) H Q := w_x at_457 rfl
theorem m25_459 : M25 459 [l0, l1, l2, l3, l4, l5, l6, l7, l8, l9, l10, .val (.long J1), l12, l13, l14, l15, l16, l17, l18, l19, l20, l21, l22, l23] st H Q = M25 461 [l0, l1, l2, l3, l4, l5, l6, l7, l8, l9, l10, .val (.long J1), l12, l13, l14, l15, l16, l17, l18, l19, l20, l21, l22, l23] (.long J1 :: st) H Q := w_x at_459 rfl
theorem m25_461 : M25 461 [l0, l1, l2, l3, l4, l5, l6, l7, l8, l9, l10, l11, l12, l13, l14, l15, l16, l17, l18, l19, l20, l21, l22, .val (.int v)] st H Q = M25 463 [l0, l1, l2, l3, l4, l5, l6, l7, l8, l9, l10, l11, l12, l13, l14, l15, l16, l17, l18, l19, l20, l21, l22, .val (.int v)] (.int v :: st) H Q := w_x at_461 rfl
theorem cr25_57 : sR tables_1 dn y25 57 = some (y24, method_5_code, 11, (some .int), 5, 43) := sR_of (cR_of (by decide +kernel) rc_24 dn_24 dn_25 (sig := ⟨[.long, .long, .long, .long, .int], some .int⟩) (by decide +kernel) (by decide +kernel) rfl rfl) (by decide +kernel)
theorem m25_463 (a0 : Int64) (a1 : Int64) (a2 : Int64) (a3 : Int64) (a4 : Int32) (u0 : Int32) : M25 463 ls [.int a4, .long a3, .long a2, .long a1, .long a0, .int u0] H Q = M24 0 [.val (.long a0), .second, .val (.long a1), .second, .val (.long a2), .second, .val (.long a3), .second, .val (.int a4), .unset, .unset] [] H (fun v H1 => M25 466 ls (v.toList ++ [.int u0]) H1 Q) := w_stat (as := [.int a4, .long a3, .long a2, .long a1, .long a0]) (rest := [.int u0]) at_463 cr25_57 rfl (Nat.le_of_ble_eq_true rfl) (by show 9 ≤ 11; omega) rfl
theorem m25_466 : M25 466 ls (.int y :: .int x :: st) H Q = if x = y then M25 475 ls st H Q else M25 469 ls st H Q := w_icmp at_466 (i_eq x y) rfl
theorem m25_469 : M25 469 ls st H Q = M25 470 ls (.int 0 :: st) H Q := w_con at_469 rfl (by decide)
theorem m25_470i : M25 470 [l0, l1, l2, l3, l4, l5, l6, l7, l8, l9, l10, l11, l12, l13, l14, l15, l16, l17, l18, l19, l20, l21, .val (.int z), l23] ((.int v) :: st) H Q = M25 472 [l0, l1, l2, l3, l4, l5, l6, l7, l8, l9, l10, l11, l12, l13, l14, l15, l16, l17, l18, l19, l20, l21, .val (.int v), l23] st H Q := w_st (i := 22) (p := isI) at_470 rfl rfl rfl rfl rfl rfl
theorem m25_472 : M25 472 ls st H Q = M25 481 ls st H Q := w_x at_472 rfl
theorem m25_475 : M25 475 [l0, l1, l2, l3, l4, l5, l6, l7, l8, l9, l10, l11, l12, l13, l14, l15, l16, l17, l18, l19, l20, l21, l22, .val (.int v)] st H Q = M25 478 [l0, l1, l2, l3, l4, l5, l6, l7, l8, l9, l10, l11, l12, l13, l14, l15, l16, l17, l18, l19, l20, l21, l22, .val (.int (v + 1))] st H Q := w_iinc at_475 rfl (by decide) rfl
theorem m25_478 : M25 478 ls st H Q = M25 436 ls st H Q := w_x at_478 rfl
theorem m25_481 : M25 481 [l0, l1, l2, l3, l4, l5, l6, l7, l8, l9, l10, l11, l12, l13, l14, l15, l16, l17, l18, l19, l20, l21, .val (.int v), l23] st H Q = M25 483 [l0, l1, l2, l3, l4, l5, l6, l7, l8, l9, l10, l11, l12, l13, l14, l15, l16, l17, l18, l19, l20, l21, .val (.int v), l23] (.int v :: st) H Q := w_x at_481 rfl
theorem m25_483 : M25 483 ls (.int x :: st) H Q = if x = 0 then M25 498 ls st H Q else M25 486 ls st H Q := w_if at_483 (z_eq x) rfl
theorem m25_486 : M25 486 [l0, l1, l2, l3, l4, l5, l6, l7, l8, l9, l10, l11, l12, l13, l14, l15, l16, l17, l18, .val (.int v), l20, l21, l22, l23] st H Q = M25 489 [l0, l1, l2, l3, l4, l5, l6, l7, l8, l9, l10, l11, l12, l13, l14, l15, l16, l17, l18, .val (.int (v + 1)), l20, l21, l22, l23] st H Q := w_iinc at_486 rfl (by decide) rfl
theorem m25_489 : M25 489 [l0, l1, l2, l3, l4, l5, l6, l7, l8, l9, l10, l11, l12, l13, l14, l15, l16, l17, l18, l19, .val (.int v), l21, l22, l23] st H Q = M25 491 [l0, l1, l2, l3, l4, l5, l6, l7, l8, l9, l10, l11, l12, l13, l14, l15, l16, l17, l18, l19, .val (.int v), l21, l22, l23] (.int v :: st) H Q := w_x at_489 rfl
theorem m25_491 : M25 491 ls (.int x :: st) H Q = if x < 0 then M25 494 ls st H Q else M25 498 ls st H Q := w_ifN at_491 (z_ge x) rfl
theorem m25_494 : M25 494 [l0, l1, l2, l3, l4, l5, l6, l7, l8, l9, l10, l11, l12, l13, l14, l15, l16, l17, l18, l19, l20, .val (.int v), l22, l23] st H Q = M25 496 [l0, l1, l2, l3, l4, l5, l6, l7, l8, l9, l10, l11, l12, l13, l14, l15, l16, l17, l18, l19, l20, .val (.int v), l22, l23] (.int v :: st) H Q := w_x at_494 rfl
theorem m25_496i : M25 496 [l0, l1, l2, l3, l4, l5, l6, l7, l8, l9, l10, l11, l12, l13, l14, l15, l16, l17, l18, l19, .val (.int z), l21, l22, l23] ((.int v) :: st) H Q = M25 498 [l0, l1, l2, l3, l4, l5, l6, l7, l8, l9, l10, l11, l12, l13, l14, l15, l16, l17, l18, l19, .val (.int v), l21, l22, l23] st H Q := w_st (i := 20) (p := isI) at_496 rfl rfl rfl rfl rfl rfl
theorem m25_498 : M25 498 [l0, l1, l2, l3, l4, l5, l6, l7, l8, l9, l10, l11, l12, l13, l14, l15, l16, l17, l18, l19, l20, .val (.int v), l22, l23] st H Q = M25 501 [l0, l1, l2, l3, l4, l5, l6, l7, l8, l9, l10, l11, l12, l13, l14, l15, l16, l17, l18, l19, l20, .val (.int (v + 1)), l22, l23] st H Q := w_iinc at_498 rfl (by decide) rfl
theorem m25_501 : M25 501 ls st H Q = M25 420 ls st H Q := w_x at_501 rfl
theorem m25_504 : M25 504 [l0, l1, l2, l3, .val (.ref r), l5, l6, l7, l8, l9, l10, l11, l12, l13, l14, l15, l16, l17, l18, l19, l20, l21, l22, l23] st H Q = M25 506 [l0, l1, l2, l3, .val (.ref r), l5, l6, l7, l8, l9, l10, l11, l12, l13, l14, l15, l16, l17, l18, l19, l20, l21, l22, l23] (.ref r :: st) H Q := w_x at_504 rfl
theorem cr25_61 : vR tables_1 dn y25 61 = some (false, y5, prog_1_method_9_code, 2, (some .int), 0, 22) := vR_of (cR_of (by decide +kernel) rc_5 dn_5 dn_25 (sig := ⟨[], some .int⟩) (by decide +kernel) (by decide +kernel) rfl rfl) (by decide +kernel) (by decide +kernel) (by decide +kernel)
theorem m25_506 : M25 506 ls [.ref (b + 1)] (put (b + 1) pre s A post) Q = M5 0 [.val (.ref (b + 1)), .unset] [] (put (b + 1) pre s A post) (fun v H1 => M25 509 ls (v.toList ++ []) H1 Q) := w_virt (as := []) (rest := []) (a := (b + 1)) at_506 cr25_61 put_o rfl rfl (Nat.le_of_ble_eq_true rfl) (by show 1 ≤ 2; omega) rfl
theorem m25_509 : M25 509 [l0, l1, l2, l3, l4, l5, l6, l7, l8, l9, l10, l11, l12, l13, l14, l15, l16, l17, l18, .val (.int v), l20, l21, l22, l23] st H Q = M25 511 [l0, l1, l2, l3, l4, l5, l6, l7, l8, l9, l10, l11, l12, l13, l14, l15, l16, l17, l18, .val (.int v), l20, l21, l22, l23] (.int v :: st) H Q := w_x at_509 rfl
theorem m25_511 : M25 511 ls (.int y :: .int x :: st) H Q = if x = y then M25 516 ls st H Q else M25 514 ls st H Q := w_icmp at_511 (i_eq x y) rfl
theorem m25_514 : M25 514 ls st H Q = M25 515 ls (.int 0 :: st) H Q := w_con at_514 rfl (by decide)
theorem m25_515 : M25 515 ls (.int z :: st) H Q = Q (some (.int (nar .boolean z))) H := w_iretN at_515 rfl (by simp)
theorem m25_516 : M25 516 [l0, l1, l2, l3, .val (.ref r), l5, l6, l7, l8, l9, l10, l11, l12, l13, l14, l15, l16, l17, l18, l19, l20, l21, l22, l23] st H Q = M25 518 [l0, l1, l2, l3, .val (.ref r), l5, l6, l7, l8, l9, l10, l11, l12, l13, l14, l15, l16, l17, l18, l19, l20, l21, l22, l23] (.ref r :: st) H Q := w_x at_516 rfl
theorem cr25_64 : vR tables_1 dn y25 64 = some (false, y6, prog_1_method_8_code, 1, (some .boolean), 0, 37) := vR_of (cR_of (by decide +kernel) rc_6 dn_6 dn_25 (sig := ⟨[], some .boolean⟩) (by decide +kernel) (by decide +kernel) rfl rfl) (by decide +kernel) (by decide +kernel) (by decide +kernel)
theorem m25_518 : M25 518 ls [.ref (b + 1)] (put (b + 1) pre s A post) Q = M6 0 [.val (.ref (b + 1))] [] (put (b + 1) pre s A post) (fun v H1 => M25 521 ls (v.toList ++ []) H1 Q) := w_virt (as := []) (rest := []) (a := (b + 1)) at_518 cr25_64 put_o rfl rfl (Nat.le_of_ble_eq_true rfl) (by show 1 ≤ 1; omega) rfl
theorem m25_521 : M25 521 [l0, l1, l2, l3, l4, l5, l6, l7, l8, l9, l10, l11, l12, l13, l14, l15, l16, l17, l18, .val (.int v), l20, l21, l22, l23] st H Q = M25 523 [l0, l1, l2, l3, l4, l5, l6, l7, l8, l9, l10, l11, l12, l13, l14, l15, l16, l17, l18, .val (.int v), l20, l21, l22, l23] (.int v :: st) H Q := w_x at_521 rfl
theorem m25_523 : M25 523 ls st H Q = M25 524 ls (.int 1 :: st) H Q := w_con at_523 rfl (by decide)
theorem m25_524 : M25 524 ls (.int y :: .int x :: st) H Q = if x < y then M25 531 ls st H Q else M25 527 ls st H Q := w_icmp at_524 (i_lt x y) rfl
theorem m25_527 : M25 527 ls st H Q = M25 528 ls (.int 1 :: st) H Q := w_con at_527 rfl (by decide)
theorem m25_528 : M25 528 ls st H Q = M25 532 ls st H Q := w_x at_528 rfl
theorem m25_531 : M25 531 ls st H Q = M25 532 ls (.int 0 :: st) H Q := w_con at_531 rfl (by decide)
theorem m25_532 : M25 532 ls (.int y :: .int x :: st) H Q = if x = y then M25 537 ls st H Q else M25 535 ls st H Q := w_icmp at_532 (i_eq x y) rfl
theorem m25_535 : M25 535 ls st H Q = M25 536 ls (.int 0 :: st) H Q := w_con at_535 rfl (by decide)
theorem m25_536 : M25 536 ls (.int z :: st) H Q = Q (some (.int (nar .boolean z))) H := w_iretN at_536 rfl (by simp)
theorem m25_537 : M25 537 [l0, l1, l2, l3, .val (.ref r), l5, l6, l7, l8, l9, l10, l11, l12, l13, l14, l15, l16, l17, l18, l19, l20, l21, l22, l23] st H Q = M25 539 [l0, l1, l2, l3, .val (.ref r), l5, l6, l7, l8, l9, l10, l11, l12, l13, l14, l15, l16, l17, l18, l19, l20, l21, l22, l23] (.ref r :: st) H Q := w_x at_537 rfl
theorem cr25_68 : vR tables_1 dn y25 68 = some (false, y7, prog_1_method_10_code, 2, (some .int), 0, 36) := vR_of (cR_of (by decide +kernel) rc_7 dn_7 dn_25 (sig := ⟨[], some .int⟩) (by decide +kernel) (by decide +kernel) rfl rfl) (by decide +kernel) (by decide +kernel) (by decide +kernel)
theorem m25_539 : M25 539 ls [.ref (b + 1)] (put (b + 1) pre s A post) Q = M7 0 [.val (.ref (b + 1)), .unset] [] (put (b + 1) pre s A post) (fun v H1 => M25 542 ls (v.toList ++ []) H1 Q) := w_virt (as := []) (rest := []) (a := (b + 1)) at_539 cr25_68 put_o rfl rfl (Nat.le_of_ble_eq_true rfl) (by show 1 ≤ 2; omega) rfl
theorem m25_542 : M25 542 [l0, l1, l2, l3, l4, l5, l6, l7, l8, l9, l10, l11, l12, l13, l14, l15, l16, l17, l18, l19, .val (.int v), l21, l22, l23] st H Q = M25 544 [l0, l1, l2, l3, l4, l5, l6, l7, l8, l9, l10, l11, l12, l13, l14, l15, l16, l17, l18, l19, .val (.int v), l21, l22, l23] (.int v :: st) H Q := w_x at_542 rfl
theorem m25_544 : M25 544 ls (.int y :: .int x :: st) H Q = if x = y then M25 549 ls st H Q else M25 547 ls st H Q := w_icmp at_544 (i_eq x y) rfl
theorem m25_547 : M25 547 ls st H Q = M25 548 ls (.int 0 :: st) H Q := w_con at_547 rfl (by decide)
theorem m25_548 : M25 548 ls (.int z :: st) H Q = Q (some (.int (nar .boolean z))) H := w_iretN at_548 rfl (by simp)
theorem m25_549 : M25 549 [l0, l1, l2, l3, l4, l5, l6, l7, l8, l9, l10, l11, l12, l13, l14, l15, .val (.int v), l17, l18, l19, l20, l21, l22, l23] st H Q = M25 552 [l0, l1, l2, l3, l4, l5, l6, l7, l8, l9, l10, l11, l12, l13, l14, l15, .val (.int (v + 1)), l17, l18, l19, l20, l21, l22, l23] st H Q := w_iinc at_549 rfl (by decide) rfl
theorem m25_552 : M25 552 ls st H Q = M25 73 ls st H Q := w_x at_552 rfl
theorem m25_555 : M25 555 ls st H Q = M25 556 ls (.int 1 :: st) H Q := w_con at_555 rfl (by decide)
theorem m25_556 : M25 556 ls (.int z :: st) H Q = Q (some (.int (nar .boolean z))) H := w_iretN at_556 rfl (by simp)
theorem pf0_7 : pfR tables_1 y0.cls y0.name 7 = some ("SuffixAutomat", 0, .array .int) := by decide +kernel
theorem m0_4a (hH : H.length = b) (hk : 1 ≤ b) {vs : List Value} {r : AHeap} (hj : 0 < vs.length) : M0 4 (.val (.ref b) :: [l1, l2, l3, l4]) [] (H ++ (.object "SuffixAutomat", vs) :: r) Q = M0 12 (.val (.ref b) :: [l1, l2, l3, l4]) [] (H ++ (.object "SuffixAutomat", vs.set 0 (.ref (b + (r.length + 1)))) :: (r ++ [(.array .int, List.replicate 64 (.int 0))])) Q := w_iarr (n := 64) rfl hH hk (show decode kb0 4 = .ok (.aload_n 0, 1) from by decide +kernel) rfl (show decode kb0 5 = .ok (.bipush 64, 2) from by decide +kernel) (fun _ => rfl) (by decide) (show decode kb0 7 = .ok (.newarray .int, 2) from by decide +kernel) rfl (by decide +kernel) (by decide) (by decide) rfl (show decode kb0 9 = .ok (.putfield 7, 3) from by decide +kernel) pf0_7 hj
theorem pf0_13 : pfR tables_1 y0.cls y0.name 13 = some ("SuffixAutomat", 1, .array .int) := by decide +kernel
theorem m0_12a (hH : H.length = b) (hk : 1 ≤ b) {vs : List Value} {r : AHeap} (hj : 1 < vs.length) : M0 12 (.val (.ref b) :: [l1, l2, l3, l4]) [] (H ++ (.object "SuffixAutomat", vs) :: r) Q = M0 20 (.val (.ref b) :: [l1, l2, l3, l4]) [] (H ++ (.object "SuffixAutomat", vs.set 1 (.ref (b + (r.length + 1)))) :: (r ++ [(.array .int, List.replicate 64 (.int 0))])) Q := w_iarr (n := 64) rfl hH hk (show decode kb0 12 = .ok (.aload_n 0, 1) from by decide +kernel) rfl (show decode kb0 13 = .ok (.bipush 64, 2) from by decide +kernel) (fun _ => rfl) (by decide) (show decode kb0 15 = .ok (.newarray .int, 2) from by decide +kernel) rfl (by decide +kernel) (by decide) (by decide) rfl (show decode kb0 17 = .ok (.putfield 13, 3) from by decide +kernel) pf0_13 hj
theorem pf0_16 : pfR tables_1 y0.cls y0.name 16 = some ("SuffixAutomat", 2, .array .int) := by decide +kernel
theorem m0_20a (hH : H.length = b) (hk : 1 ≤ b) {vs : List Value} {r : AHeap} (hj : 2 < vs.length) : M0 20 (.val (.ref b) :: [l1, l2, l3, l4]) [] (H ++ (.object "SuffixAutomat", vs) :: r) Q = M0 28 (.val (.ref b) :: [l1, l2, l3, l4]) [] (H ++ (.object "SuffixAutomat", vs.set 2 (.ref (b + (r.length + 1)))) :: (r ++ [(.array .int, List.replicate 64 (.int 0))])) Q := w_iarr (n := 64) rfl hH hk (show decode kb0 20 = .ok (.aload_n 0, 1) from by decide +kernel) rfl (show decode kb0 21 = .ok (.bipush 64, 2) from by decide +kernel) (fun _ => rfl) (by decide) (show decode kb0 23 = .ok (.newarray .int, 2) from by decide +kernel) rfl (by decide +kernel) (by decide) (by decide) rfl (show decode kb0 25 = .ok (.putfield 16, 3) from by decide +kernel) pf0_16 hj
theorem pf0_19 : pfR tables_1 y0.cls y0.name 19 = some ("SuffixAutomat", 3, .array .int) := by decide +kernel
theorem m0_28a (hH : H.length = b) (hk : 1 ≤ b) {vs : List Value} {r : AHeap} (hj : 3 < vs.length) : M0 28 (.val (.ref b) :: [l1, l2, l3, l4]) [] (H ++ (.object "SuffixAutomat", vs) :: r) Q = M0 37 (.val (.ref b) :: [l1, l2, l3, l4]) [] (H ++ (.object "SuffixAutomat", vs.set 3 (.ref (b + (r.length + 1)))) :: (r ++ [(.array .int, List.replicate 1024 (.int 0))])) Q := w_iarr (n := 1024) rfl hH hk (show decode kb0 28 = .ok (.aload_n 0, 1) from by decide +kernel) rfl (show decode kb0 29 = .ok (.sipush 1024, 3) from by decide +kernel) (fun _ => rfl) (by decide) (show decode kb0 32 = .ok (.newarray .int, 2) from by decide +kernel) rfl (by decide +kernel) (by decide) (by decide) rfl (show decode kb0 34 = .ok (.putfield 19, 3) from by decide +kernel) pf0_19 hj
theorem pf0_22 : pfR tables_1 y0.cls y0.name 22 = some ("SuffixAutomat", 4, .array .int) := by decide +kernel
theorem m0_37a (hH : H.length = b) (hk : 1 ≤ b) {vs : List Value} {r : AHeap} (hj : 4 < vs.length) : M0 37 (.val (.ref b) :: [l1, l2, l3, l4]) [] (H ++ (.object "SuffixAutomat", vs) :: r) Q = M0 46 (.val (.ref b) :: [l1, l2, l3, l4]) [] (H ++ (.object "SuffixAutomat", vs.set 4 (.ref (b + (r.length + 1)))) :: (r ++ [(.array .int, List.replicate 128 (.int 0))])) Q := w_iarr (n := 128) rfl hH hk (show decode kb0 37 = .ok (.aload_n 0, 1) from by decide +kernel) rfl (show decode kb0 38 = .ok (.sipush 128, 3) from by decide +kernel) (fun _ => rfl) (by decide) (show decode kb0 41 = .ok (.newarray .int, 2) from by decide +kernel) rfl (by decide +kernel) (by decide) (by decide) rfl (show decode kb0 43 = .ok (.putfield 22, 3) from by decide +kernel) pf0_22 hj
theorem pf0_25 : pfR tables_1 y0.cls y0.name 25 = some ("SuffixAutomat", 5, .array .int) := by decide +kernel
theorem m0_46a (hH : H.length = b) (hk : 1 ≤ b) {vs : List Value} {r : AHeap} (hj : 5 < vs.length) : M0 46 (.val (.ref b) :: [l1, l2, l3, l4]) [] (H ++ (.object "SuffixAutomat", vs) :: r) Q = M0 55 (.val (.ref b) :: [l1, l2, l3, l4]) [] (H ++ (.object "SuffixAutomat", vs.set 5 (.ref (b + (r.length + 1)))) :: (r ++ [(.array .int, List.replicate 128 (.int 0))])) Q := w_iarr (n := 128) rfl hH hk (show decode kb0 46 = .ok (.aload_n 0, 1) from by decide +kernel) rfl (show decode kb0 47 = .ok (.sipush 128, 3) from by decide +kernel) (fun _ => rfl) (by decide) (show decode kb0 50 = .ok (.newarray .int, 2) from by decide +kernel) rfl (by decide +kernel) (by decide) (by decide) rfl (show decode kb0 52 = .ok (.putfield 25, 3) from by decide +kernel) pf0_25 hj
theorem pf0_28 : pfR tables_1 y0.cls y0.name 28 = some ("SuffixAutomat", 6, .array .int) := by decide +kernel
theorem m0_55a (hH : H.length = b) (hk : 1 ≤ b) {vs : List Value} {r : AHeap} (hj : 6 < vs.length) : M0 55 (.val (.ref b) :: [l1, l2, l3, l4]) [] (H ++ (.object "SuffixAutomat", vs) :: r) Q = M0 64 (.val (.ref b) :: [l1, l2, l3, l4]) [] (H ++ (.object "SuffixAutomat", vs.set 6 (.ref (b + (r.length + 1)))) :: (r ++ [(.array .int, List.replicate 128 (.int 0))])) Q := w_iarr (n := 128) rfl hH hk (show decode kb0 55 = .ok (.aload_n 0, 1) from by decide +kernel) rfl (show decode kb0 56 = .ok (.sipush 128, 3) from by decide +kernel) (fun _ => rfl) (by decide) (show decode kb0 59 = .ok (.newarray .int, 2) from by decide +kernel) rfl (by decide +kernel) (by decide) (by decide) rfl (show decode kb0 61 = .ok (.putfield 28, 3) from by decide +kernel) pf0_28 hj
theorem pf0_31 : pfR tables_1 y0.cls y0.name 31 = some ("SuffixAutomat", 7, .array .boolean) := by decide +kernel
theorem m0_64a (hH : H.length = b) (hk : 1 ≤ b) {vs : List Value} {r : AHeap} (hj : 7 < vs.length) : M0 64 (.val (.ref b) :: [l1, l2, l3, l4]) [] (H ++ (.object "SuffixAutomat", vs) :: r) Q = M0 73 (.val (.ref b) :: [l1, l2, l3, l4]) [] (H ++ (.object "SuffixAutomat", vs.set 7 (.ref (b + (r.length + 1)))) :: (r ++ [(.array .boolean, List.replicate 128 (.int 0))])) Q := w_iarr (n := 128) rfl hH hk (show decode kb0 64 = .ok (.aload_n 0, 1) from by decide +kernel) rfl (show decode kb0 65 = .ok (.sipush 128, 3) from by decide +kernel) (fun _ => rfl) (by decide) (show decode kb0 68 = .ok (.newarray .boolean, 2) from by decide +kernel) rfl (by decide +kernel) (by decide) (by decide) rfl (show decode kb0 70 = .ok (.putfield 31, 3) from by decide +kernel) pf0_31 hj
theorem pf0_35 : pfR tables_1 y0.cls y0.name 35 = some ("SuffixAutomat", 8, .array .int) := by decide +kernel
theorem m0_73a (hH : H.length = b) (hk : 1 ≤ b) {vs : List Value} {r : AHeap} (hj : 8 < vs.length) : M0 73 (.val (.ref b) :: [l1, l2, l3, l4]) [] (H ++ (.object "SuffixAutomat", vs) :: r) Q = M0 82 (.val (.ref b) :: [l1, l2, l3, l4]) [] (H ++ (.object "SuffixAutomat", vs.set 8 (.ref (b + (r.length + 1)))) :: (r ++ [(.array .int, List.replicate 128 (.int 0))])) Q := w_iarr (n := 128) rfl hH hk (show decode kb0 73 = .ok (.aload_n 0, 1) from by decide +kernel) rfl (show decode kb0 74 = .ok (.sipush 128, 3) from by decide +kernel) (fun _ => rfl) (by decide) (show decode kb0 77 = .ok (.newarray .int, 2) from by decide +kernel) rfl (by decide +kernel) (by decide) (by decide) rfl (show decode kb0 79 = .ok (.putfield 35, 3) from by decide +kernel) pf0_35 hj
theorem pf0_38 : pfR tables_1 y0.cls y0.name 38 = some ("SuffixAutomat", 9, .array .int) := by decide +kernel
theorem m0_82a (hH : H.length = b) (hk : 1 ≤ b) {vs : List Value} {r : AHeap} (hj : 9 < vs.length) : M0 82 (.val (.ref b) :: [l1, l2, l3, l4]) [] (H ++ (.object "SuffixAutomat", vs) :: r) Q = M0 91 (.val (.ref b) :: [l1, l2, l3, l4]) [] (H ++ (.object "SuffixAutomat", vs.set 9 (.ref (b + (r.length + 1)))) :: (r ++ [(.array .int, List.replicate 128 (.int 0))])) Q := w_iarr (n := 128) rfl hH hk (show decode kb0 82 = .ok (.aload_n 0, 1) from by decide +kernel) rfl (show decode kb0 83 = .ok (.sipush 128, 3) from by decide +kernel) (fun _ => rfl) (by decide) (show decode kb0 86 = .ok (.newarray .int, 2) from by decide +kernel) rfl (by decide +kernel) (by decide) (by decide) rfl (show decode kb0 88 = .ok (.putfield 38, 3) from by decide +kernel) pf0_38 hj
theorem pf0_41 : pfR tables_1 y0.cls y0.name 41 = some ("SuffixAutomat", 10, .array .int) := by decide +kernel
theorem m0_91a (hH : H.length = b) (hk : 1 ≤ b) {vs : List Value} {r : AHeap} (hj : 10 < vs.length) : M0 91 (.val (.ref b) :: [l1, l2, l3, l4]) [] (H ++ (.object "SuffixAutomat", vs) :: r) Q = M0 99 (.val (.ref b) :: [l1, l2, l3, l4]) [] (H ++ (.object "SuffixAutomat", vs.set 10 (.ref (b + (r.length + 1)))) :: (r ++ [(.array .int, List.replicate 65 (.int 0))])) Q := w_iarr (n := 65) rfl hH hk (show decode kb0 91 = .ok (.aload_n 0, 1) from by decide +kernel) rfl (show decode kb0 92 = .ok (.bipush 65, 2) from by decide +kernel) (fun _ => rfl) (by decide) (show decode kb0 94 = .ok (.newarray .int, 2) from by decide +kernel) rfl (by decide +kernel) (by decide) (by decide) rfl (show decode kb0 96 = .ok (.putfield 41, 3) from by decide +kernel) pf0_41 hj
def A0 : Nat → List Int32
  | 0 => List.replicate 64 0
  | 1 => List.replicate 64 0
  | 2 => List.replicate 64 0
  | 3 => List.replicate 1024 0
  | 4 => List.replicate 128 0
  | 5 => List.replicate 128 0
  | 6 => List.replicate 128 0
  | 7 => List.replicate 128 0
  | 8 => List.replicate 128 0
  | 9 => List.replicate 128 0
  | 10 => List.replicate 65 0
  | _ => []
theorem A0l_0 : (A0 0).length = 64 := List.length_replicate
theorem A0g_0 (j : Int32) : getA (A0 0) j = 0 := getA_rep _ _
theorem A0l_1 : (A0 1).length = 64 := List.length_replicate
theorem A0g_1 (j : Int32) : getA (A0 1) j = 0 := getA_rep _ _
theorem A0l_2 : (A0 2).length = 64 := List.length_replicate
theorem A0g_2 (j : Int32) : getA (A0 2) j = 0 := getA_rep _ _
theorem A0l_3 : (A0 3).length = 1024 := List.length_replicate
theorem A0g_3 (j : Int32) : getA (A0 3) j = 0 := getA_rep _ _
theorem A0l_4 : (A0 4).length = 128 := List.length_replicate
theorem A0g_4 (j : Int32) : getA (A0 4) j = 0 := getA_rep _ _
theorem A0l_5 : (A0 5).length = 128 := List.length_replicate
theorem A0g_5 (j : Int32) : getA (A0 5) j = 0 := getA_rep _ _
theorem A0l_6 : (A0 6).length = 128 := List.length_replicate
theorem A0g_6 (j : Int32) : getA (A0 6) j = 0 := getA_rep _ _
theorem A0l_7 : (A0 7).length = 128 := List.length_replicate
theorem A0g_7 (j : Int32) : getA (A0 7) j = 0 := getA_rep _ _
theorem A0l_8 : (A0 8).length = 128 := List.length_replicate
theorem A0g_8 (j : Int32) : getA (A0 8) j = 0 := getA_rep _ _
theorem A0l_9 : (A0 9).length = 128 := List.length_replicate
theorem A0g_9 (j : Int32) : getA (A0 9) j = 0 := getA_rep _ _
theorem A0l_10 : (A0 10).length = 65 := List.length_replicate
theorem A0g_10 (j : Int32) : getA (A0 10) j = 0 := getA_rep _ _
theorem own_ctor0 (hb : pre.length = b) (hk : 1 ≤ b) : M0 0 (.val (.ref b) :: [l1, l2, l3, l4]) [] (pre ++ [(.object "SuffixAutomat", D0)]) Q = M0 99 (.val (.ref b) :: [l1, l2, l3, l4]) [] (put b pre (fun _ => 0) A0 []) Q := by
  rw [m0_0, m0_1, m0_4a hb hk (by (repeat rw [List.length_set]); exact Nat.le_of_ble_eq_true rfl), m0_12a hb hk (by (repeat rw [List.length_set]); exact Nat.le_of_ble_eq_true rfl), m0_20a hb hk (by (repeat rw [List.length_set]); exact Nat.le_of_ble_eq_true rfl), m0_28a hb hk (by (repeat rw [List.length_set]); exact Nat.le_of_ble_eq_true rfl), m0_37a hb hk (by (repeat rw [List.length_set]); exact Nat.le_of_ble_eq_true rfl), m0_46a hb hk (by (repeat rw [List.length_set]); exact Nat.le_of_ble_eq_true rfl), m0_55a hb hk (by (repeat rw [List.length_set]); exact Nat.le_of_ble_eq_true rfl), m0_64a hb hk (by (repeat rw [List.length_set]); exact Nat.le_of_ble_eq_true rfl), m0_73a hb hk (by (repeat rw [List.length_set]); exact Nat.le_of_ble_eq_true rfl), m0_82a hb hk (by (repeat rw [List.length_set]); exact Nat.le_of_ble_eq_true rfl), m0_91a hb hk (by (repeat rw [List.length_set]); exact Nat.le_of_ble_eq_true rfl)]
  simp only [put, pad_eq hb, objv, D0, A0, List.map_replicate, List.set_cons_succ, List.set_cons_zero, List.nil_append, List.cons_append, List.length_cons, List.length_nil, List.append_nil]
end Rules
/- methods: 0=SuffixAutomat.<init>(II)V; 1=SuffixAutomat.resetAutomaton()V; 2=SuffixAutomat.clearState(I)V; 3=SuffixAutomat.length()I; 4=SuffixAutomat.patternLength()I; 5=SuffixAutomat.occurrences()I; 6=SuffixAutomat.contains()Z; 7=SuffixAutomat.firstOccurrence()I; 8=SuffixAutomat.append(I)Z; 9=SuffixAutomat.extend(I)V; 10=SuffixAutomat.addEdges(III)I; 11=SuffixAutomat.pushPattern(I)Z; 12=SuffixAutomat.symbolAt(I)I; 13=SuffixAutomat.walkPattern()I; 14=SuffixAutomat.ensureCounts()V; 15=SuffixAutomat.sortByLength()V; 16=SuffixAutomat.clearOther()V; 17=SuffixAutomat.pushOther(I)Z; 18=SuffixAutomat.clearPattern()V; 19=SuffixAutomat.splitState(IIII)V; 20=SuffixAutomat.reset()V; 21=SuffixAutomatOwnLaw.cell([II)I; 22=SuffixAutomatOwnLaw.mod(II)I; 23=SuffixAutomatOwnLaw.clampAlpha(I)I; 24=SuffixAutomatOwnLaw.get(JJJJI)I; 25=SuffixAutomatOwnLaw.law([I)Z -/
def nI (n : Nat) : Int32 := Nat.toInt32 n
theorem nI_int {n : Nat} (h : n < 2147483648) : (nI n).toInt = n := len_toInt h
theorem nI_cl {n : Nat} (h : n < 2147483648) : (nI n).toNatClampNeg = n := by rw [toNat_eq, nI_int h]; rfl
theorem nI_add (a c : Nat) : nI a + nI c = nI (a + c) := (Int32.ofNat_add a c).symm
theorem nI_1 (a : Nat) : nI a + 1 = nI (a + 1) := nI_add a 1
theorem nI_sub {a c : Nat} (h : c ≤ a) : nI a - nI c = nI (a - c) := by
  have e : nI a = nI (a - c) + nI c := by rw [nI_add, Nat.sub_add_cancel h]
  rw [e, Int32.add_sub_cancel]
theorem nI_32 (v : Nat) : nI v * 32 = nI (v * 32) := (Int32.ofNat_mul v 32).symm
theorem nI_lt {a c : Nat} (ha : a < 2147483648) (hc : c < 2147483648) : nI a < nI c ↔ a < c := by
  rw [lt_i, nI_int ha, nI_int hc]
  omega
theorem nI_nn {a : Nat} (ha : a < 2147483648) : ¬ nI a < 0 := by
  rw [nn_i, nI_int ha]
  omega
theorem nI_inj {a c : Nat} (ha : a < 2147483648) (hc : c < 2147483648) : nI a = nI c ↔ a = c := by
  constructor
  · intro h
    have := congrArg Int32.toInt h
    rw [nI_int ha, nI_int hc] at this
    omega
  · intro h; rw [h]
theorem nI_ne {a c : Nat} (ha : a < 2147483648) (hc : c < 2147483648) (h : a ≠ c) : ¬ nI a = nI c := fun e => h ((nI_inj ha hc).mp e)
theorem nI_in {l : List Int32} {i : Nat} (h : i < l.length) (hl : l.length ≤ 4096) : inB (nI i) l := by
  rw [inB_iff, nI_int (by omega)]
  omega
theorem lT {a c : Nat} (h : a < c) (hc : c < 2147483648) : (nI a < nI c) = True := eq_true ((nI_lt (by omega) hc).mpr h)
theorem lF {a c : Nat} (h : c ≤ a) (ha : a < 2147483648) : (nI a < nI c) = False := eq_false (fun q => by rw [nI_lt ha (by omega)] at q; omega)
theorem cf_set {l : List Int32} {i j : Nat} {x : Int32} (hj : j < l.length) (hl : l.length ≤ 4096) (hi : i < 4096) : getA (setA l (nI j) x) (nI i) = if i = j then x else getA l (nI i) := by
  rw [getA_set2, nI_cl (by omega), nI_cl (by omega)]
  simp [hj]
def CF (l : List Int32) (f : Nat → Int32) (k : Nat) : Prop := ∀ i, i < k → getA l (nI i) = f i
def CN (l : List Int32) (f : Nat → Nat) (k : Nat) : Prop := ∀ i, i < k → getA l (nI i) = nI (f i)
section Cells
variable {l : List Int32} {f : Nat → Int32} {g : Nat → Nat} {k j w : Nat} {x : Int32}
theorem CF_set (h : CF l f k) (hj : j < l.length) (hl : l.length ≤ 4096) (hk : k ≤ 4096) : CF (setA l (nI j) x) (ou f j x) k := by
  intro i hi
  rw [cf_set hj hl (by omega), ou_a]
  split
  · rfl
  · exact h i hi
theorem CF_push (h : CF l f k) (hk : k < l.length) (hl : l.length ≤ 4096) : CF (setA l (nI k) x) (ou f k x) (k + 1) := by
  intro i hi
  rw [cf_set hk hl (by omega), ou_a]
  split
  · rfl
  · exact h i (by omega)
theorem CN_set (h : CN l g k) (hj : j < l.length) (hl : l.length ≤ 4096) (hk : k ≤ 4096) : CN (setA l (nI j) (nI w)) (ou g j w) k := by
  intro i hi
  rw [cf_set hj hl (by omega), ou_a]
  split
  · rfl
  · exact h i hi
theorem CN_push (h : CN l g k) (hk : k < l.length) (hl : l.length ≤ 4096) : CN (setA l (nI k) (nI w)) (ou g k w) (k + 1) := by
  intro i hi
  rw [cf_set hk hl (by omega), ou_a]
  split
  · rfl
  · exact h i (by omega)
end Cells
theorem okS_n (n : Nat) : okS (.val (.int (nI n))) := okS_i _
def LN (A : Nat → List Int32) : Prop := ∀ i, (A i).length = (A0 i).length
theorem LN_ou {A : Nat → List Int32} {j : Nat} {l : List Int32} (h : LN A) (hl : l.length = (A0 j).length) : LN (ou A j l) := len_ou h hl
theorem LN_set {A : Nat → List Int32} {j : Nat} {x v : Int32} (h : LN A) : LN (ou A j (setA (A j) x v)) := LN_ou h (by rw [setA_len]; exact h _)
theorem nI_inB {l : List Int32} {i : Nat} (h : i < l.length) (hl : l.length ≤ 100000) : inB (nI i) l := by
  rw [inB_iff, nI_int (by omega)]
  omega
theorem cf_setB {l : List Int32} {i j : Nat} {x : Int32} (hj : j < l.length) (hl : l.length ≤ 100000) (hi : i < 100000) : getA (setA l (nI j) x) (nI i) = if i = j then x else getA l (nI i) := by
  rw [getA_set2, nI_cl (by omega), nI_cl (by omega)]
  simp [hj]
theorem ln0 {A : Nat → List Int32} (h : LN A) : (A 0).length = 64 := (h 0).trans A0l_0
theorem in0 {A : Nat → List Int32} {i : Nat} (h : LN A) (hi : i < 64) : inB (nI i) (A 0) := nI_inB (by rw [ln0 h]; exact hi) (by rw [ln0 h]; decide)
theorem ln1 {A : Nat → List Int32} (h : LN A) : (A 1).length = 64 := (h 1).trans A0l_1
theorem in1 {A : Nat → List Int32} {i : Nat} (h : LN A) (hi : i < 64) : inB (nI i) (A 1) := nI_inB (by rw [ln1 h]; exact hi) (by rw [ln1 h]; decide)
theorem ln2 {A : Nat → List Int32} (h : LN A) : (A 2).length = 64 := (h 2).trans A0l_2
theorem in2 {A : Nat → List Int32} {i : Nat} (h : LN A) (hi : i < 64) : inB (nI i) (A 2) := nI_inB (by rw [ln2 h]; exact hi) (by rw [ln2 h]; decide)
theorem ln3 {A : Nat → List Int32} (h : LN A) : (A 3).length = 1024 := (h 3).trans A0l_3
theorem in3 {A : Nat → List Int32} {i : Nat} (h : LN A) (hi : i < 1024) : inB (nI i) (A 3) := nI_inB (by rw [ln3 h]; exact hi) (by rw [ln3 h]; decide)
theorem ln4 {A : Nat → List Int32} (h : LN A) : (A 4).length = 128 := (h 4).trans A0l_4
theorem in4 {A : Nat → List Int32} {i : Nat} (h : LN A) (hi : i < 128) : inB (nI i) (A 4) := nI_inB (by rw [ln4 h]; exact hi) (by rw [ln4 h]; decide)
theorem ln5 {A : Nat → List Int32} (h : LN A) : (A 5).length = 128 := (h 5).trans A0l_5
theorem in5 {A : Nat → List Int32} {i : Nat} (h : LN A) (hi : i < 128) : inB (nI i) (A 5) := nI_inB (by rw [ln5 h]; exact hi) (by rw [ln5 h]; decide)
theorem ln6 {A : Nat → List Int32} (h : LN A) : (A 6).length = 128 := (h 6).trans A0l_6
theorem in6 {A : Nat → List Int32} {i : Nat} (h : LN A) (hi : i < 128) : inB (nI i) (A 6) := nI_inB (by rw [ln6 h]; exact hi) (by rw [ln6 h]; decide)
theorem ln7 {A : Nat → List Int32} (h : LN A) : (A 7).length = 128 := (h 7).trans A0l_7
theorem in7 {A : Nat → List Int32} {i : Nat} (h : LN A) (hi : i < 128) : inB (nI i) (A 7) := nI_inB (by rw [ln7 h]; exact hi) (by rw [ln7 h]; decide)
theorem ln8 {A : Nat → List Int32} (h : LN A) : (A 8).length = 128 := (h 8).trans A0l_8
theorem in8 {A : Nat → List Int32} {i : Nat} (h : LN A) (hi : i < 128) : inB (nI i) (A 8) := nI_inB (by rw [ln8 h]; exact hi) (by rw [ln8 h]; decide)
theorem ln9 {A : Nat → List Int32} (h : LN A) : (A 9).length = 128 := (h 9).trans A0l_9
theorem in9 {A : Nat → List Int32} {i : Nat} (h : LN A) (hi : i < 128) : inB (nI i) (A 9) := nI_inB (by rw [ln9 h]; exact hi) (by rw [ln9 h]; decide)
theorem ln10 {A : Nat → List Int32} (h : LN A) : (A 10).length = 65 := (h 10).trans A0l_10
theorem in10 {A : Nat → List Int32} {i : Nat} (h : LN A) (hi : i < 65) : inB (nI i) (A 10) := nI_inB (by rw [ln10 h]; exact hi) (by rw [ln10 h]; decide)
/-! counting below k (from t74) -/
theorem PH : ∀ (n t : Nat) (o : Nat → Nat), (∀ i, i < t → o i < n) → (∀ i j, i < t → j < t → o i = o j → i = j) → t ≤ n := by
  intro n
  induction n with
  | zero =>
    intro t o h1 h2
    rcases Nat.eq_zero_or_pos t with h | h
    · omega
    · exact absurd (h1 0 h) (by omega)
  | succ n ih =>
    intro t o h1 h2
    by_cases c : ∃ i, i < t ∧ o i = n
    · obtain ⟨k, hk, ek⟩ := c
      have := ih (t - 1) (fun i => if i < k then o i else o (i + 1)) (fun i hi => by
        show (if i < k then o i else o (i + 1)) < n
        split
        · rename_i q
          have a := h1 i (by omega)
          have : o i ≠ n := fun z => by have := h2 i k (by omega) hk (by rw [z, ek]); omega
          omega
        · rename_i q
          have a := h1 (i + 1) (by omega)
          have : o (i + 1) ≠ n := fun z => by have := h2 (i + 1) k (by omega) hk (by rw [z, ek]); omega
          omega) (fun i j hi hj e => by
        have e' : (if i < k then o i else o (i + 1)) = (if j < k then o j else o (j + 1)) := e
        split at e' <;> split at e' <;> have := h2 _ _ (by omega) (by omega) e' <;> omega)
      omega
    · have := ih t o (fun i hi => by
        have a := h1 i hi
        have : o i ≠ n := fun z => c ⟨i, hi, z⟩
        omega) h2
      omega
theorem PHs {n : Nat} {o : Nat → Nat} (h1 : ∀ i, i < n → o i < n) (h2 : ∀ i j, i < n → j < n → o i = o j → i = j) (v : Nat) (hv : v < n) : ∃ j, j < n ∧ o j = v := by
  by_cases c : ∃ j, j < n ∧ o j = v
  · exact c
  · have := PH n (n + 1) (fun i => if i < n then o i else v) (fun i hi => by
      show (if i < n then o i else v) < n
      split
      · exact h1 i (by assumption)
      · exact hv) (fun i j hi hj e => by
      have e' : (if i < n then o i else v) = (if j < n then o j else v) := e
      split at e' <;> split at e'
      · exact h2 i j (by assumption) (by assumption) e'
      · exact absurd ⟨i, by assumption, e'⟩ c
      · exact absurd ⟨j, by assumption, e'.symm⟩ c
      · omega)
    omega
def cB (p : Nat → Bool) : Nat → Nat
  | 0 => 0
  | k + 1 => cB p k + (if p k = true then 1 else 0)
theorem cB_le (p : Nat → Bool) : ∀ k, cB p k ≤ k := by
  intro k
  induction k with
  | zero => exact Nat.le_refl _
  | succ k ih => rw [cB]; split <;> omega
theorem cB_ext {p q : Nat → Bool} : ∀ k, (∀ i, i < k → p i = q i) → cB p k = cB q k := by
  intro k
  induction k with
  | zero => intro _; rfl
  | succ k ih => intro h; rw [cB, cB, ih (fun i hi => h i (by omega)), h k (by omega)]
theorem cB_0 {p : Nat → Bool} : ∀ k, cB p k = 0 → ∀ i, i < k → p i = false := by
  intro k
  induction k with
  | zero => intro _ i hi; omega
  | succ k ih =>
    intro h i hi
    rw [cB] at h
    by_cases e : i = k
    · subst e
      cases q : p i
      · rfl
      · rw [q] at h; simp at h
    · exact ih (by omega) i (by omega)
theorem cB_rm {p : Nat → Bool} {e : Nat} : ∀ k, e < k → p e = true → cB p k = cB (fun i => p i && decide (i ≠ e)) k + 1 := by
  intro k
  induction k with
  | zero => intro h; omega
  | succ k ih =>
    intro h hp
    rw [cB, cB]
    by_cases c : k = e
    · subst c
      rw [hp, cB_ext (p := p) (q := fun i => p i && decide (i ≠ k)) k (fun i hi => by
        have : i ≠ k := by omega
        simp [this])]
      simp
    · rw [ih (by omega) hp]
      have : (p k && decide (k ≠ e)) = p k := by simp [c]
      simp only [this]
      omega
theorem cB_mono {p q : Nat → Bool} : ∀ k, (∀ i, i < k → p i = true → q i = true) → cB p k ≤ cB q k := by
  intro k
  induction k with
  | zero => intro _; exact Nat.le_refl _
  | succ k ih =>
    intro h
    rw [cB, cB]
    have := ih (fun i hi => h i (by omega))
    by_cases c : p k = true
    · rw [if_pos c, if_pos (h k (by omega) c)]; omega
    · rw [if_neg c]; split <;> omega
theorem cB_dis {p q s : Nat → Bool} : ∀ k, (∀ i, i < k → p i = true → s i = true) → (∀ i, i < k → q i = true → s i = true) → (∀ i, i < k → p i = true → q i = true → False) → cB p k + cB q k ≤ cB s k := by
  intro k
  induction k with
  | zero => intro _ _ _; exact Nat.le_refl _
  | succ k ih =>
    intro h1 h2 h3
    rw [cB, cB, cB]
    have := ih (fun i hi => h1 i (by omega)) (fun i hi => h2 i (by omega)) (fun i hi => h3 i (by omega))
    by_cases c : p k = true
    · have c2 : ¬ q k = true := fun z => h3 k (by omega) c z
      rw [if_pos c, if_neg c2, if_pos (h1 k (by omega) c)]; omega
    · by_cases c2 : q k = true
      · rw [if_neg c, if_pos c2, if_pos (h2 k (by omega) c2)]; omega
      · rw [if_neg c, if_neg c2]; split <;> omega
theorem cB_lt {p q : Nat → Bool} {k a : Nat} (ha : a < k) (h : ∀ i, i < k → p i = true → q i = true) (hp : p a = false) (hq : q a = true) : cB p k < cB q k := by
  rw [cB_rm k ha hq]
  have : cB p k ≤ cB (fun i => q i && decide (i ≠ a)) k := cB_mono k (fun i hi hpi => by
    have : i ≠ a := fun e => by rw [e, hp] at hpi; cases hpi
    simp [h i hi hpi, this])
  omega
/-! words, the latest letter first: a suffix of the text is a prefix here -/
section Ac
variable {S : List Nat → Prop}
def IsLS (S : List Nat → Prop) (x y : List Nat) : Prop := y <+: x ∧ S y ∧ ∀ z, z <+: x → S z → z <+: y
/-- the longest proper one -/
def IsPL (S : List Nat → Prop) (x y : List Nat) : Prop := y <+: x ∧ y.length < x.length ∧ S y ∧ ∀ z, z <+: x → z.length < x.length → S z → z <+: y
theorem pre_c {c : Nat} {x z : List Nat} (h : z <+: c :: x) : z = [] ∨ ∃ z', z = c :: z' ∧ z' <+: x := by
  cases z with
  | nil => exact Or.inl rfl
  | cons a z =>
    obtain ⟨t, e⟩ := h
    rw [List.cons_append] at e
    injection e with e1 e2
    exact Or.inr ⟨z, by rw [e1], ⟨t, e2⟩⟩
theorem cons_pre {c : Nat} {x z : List Nat} (h : z <+: x) : c :: z <+: c :: x := by
  obtain ⟨t, e⟩ := h
  exact ⟨t, by rw [List.cons_append, e]⟩
theorem pre_eq {x z : List Nat} (h : z <+: x) (e : z.length = x.length) : z = x := by
  obtain ⟨t, e'⟩ := h
  have : t.length = 0 := by
    have := congrArg List.length e'
    rw [List.length_append] at this
    omega
  rw [List.length_eq_zero_iff.mp this, List.append_nil] at e'
  exact e'
theorem pre_len {x z : List Nat} (h : z <+: x) : z.length ≤ x.length := by
  obtain ⟨t, e⟩ := h
  rw [← e, List.length_append]
  omega
theorem pre_anti {x y : List Nat} (h : x <+: y) (h' : y <+: x) : x = y := pre_eq h (Nat.le_antisymm (pre_len h) (pre_len h'))
theorem IsLS.un {x y y' : List Nat} (h : IsLS S x y) (h' : IsLS S x y') : y = y' := pre_anti (h'.2.2 y h.1 h.2.1) (h.2.2 y' h'.1 h'.2.1)
/-- one more letter -/
theorem LS_c (hS : ∀ c w, S (c :: w) → S w) {c : Nat} {x y v : List Nat} (h : IsLS S x y) (hv : IsLS S (c :: y) v) : IsLS S (c :: x) v := by
  refine ⟨hv.1.trans (cons_pre h.1), hv.2.1, fun z hz sz => ?_⟩
  rcases pre_c hz with e | ⟨z', e, hz'⟩
  · rw [e]; exact List.nil_prefix
  · rw [e] at sz ⊢
    exact hv.2.2 _ (cons_pre (h.2.2 z' hz' (hS c z' sz))) sz
/-- a row by the failure link -/
theorem LS_f (hS : ∀ c w, S (c :: w) → S w) {c : Nat} {w f v : List Nat} (h : IsPL S w f) (hn : ¬ S (c :: w)) (hv : IsLS S (c :: f) v) : IsLS S (c :: w) v := by
  refine ⟨hv.1.trans (cons_pre h.1), hv.2.1, fun z hz sz => ?_⟩
  rcases pre_c hz with e | ⟨z', e, hz'⟩
  · rw [e]; exact List.nil_prefix
  · rw [e] at sz ⊢
    have l := pre_len hz'
    by_cases q : z'.length = w.length
    · rw [pre_eq hz' q] at sz; exact absurd sz hn
    · exact hv.2.2 _ (cons_pre (h.2.2.2 z' hz' (by omega) (hS c z' sz))) sz
/-- a child is its own row's answer -/
theorem LS_s {c : Nat} {w : List Nat} (h : S (c :: w)) : IsLS S (c :: w) (c :: w) := ⟨List.prefix_refl _, h, fun _ hz _ => hz⟩
/-- the failure link of a child -/
theorem PL_c (hS : ∀ c w, S (c :: w) → S w) {c : Nat} {w f v : List Nat} (h : IsPL S w f) (hv : IsLS S (c :: f) v) : IsPL S (c :: w) v := by
  have l := pre_len hv.1
  have lf := h.2.1
  refine ⟨hv.1.trans (cons_pre h.1), by rw [List.length_cons] at l ⊢; omega, hv.2.1, fun z hz lz sz => ?_⟩
  rcases pre_c hz with e | ⟨z', e, hz'⟩
  · rw [e]; exact List.nil_prefix
  · rw [e] at sz lz ⊢
    rw [List.length_cons, List.length_cons] at lz
    exact hv.2.2 _ (cons_pre (h.2.2.2 z' hz' (by omega) (hS c z' sz))) sz
theorem PL_1 (h0 : S []) {c : Nat} : IsPL S [c] [] := by
  refine ⟨List.nil_prefix, by simp, h0, fun z hz lz sz => ?_⟩
  rw [List.length_singleton] at lz
  have e : z = [] := List.length_eq_zero_iff.mp (by omega)
  rw [e]
  exact List.nil_prefix
theorem LS_0 (h0 : S []) {c : Nat} (hn : ¬ S [c]) : IsLS S [c] [] := by
  refine ⟨List.nil_prefix, h0, fun z hz sz => ?_⟩
  rcases pre_c hz with e | ⟨z', e, hz'⟩
  · rw [e]; exact List.nil_prefix
  · have : z' = [] := List.prefix_nil.mp hz'
    rw [e, this] at sz
    exact absurd sz hn
/-- outputs through the failure link -/
theorem OM_f {w f g : List Nat} (h : IsPL S w f) (hg : S g) : g <+: w ↔ g = w ∨ g <+: f := by
  constructor
  · intro q
    have l := pre_len q
    by_cases e : g.length = w.length
    · exact Or.inl (pre_eq q e)
    · exact Or.inr (h.2.2.2 g q (by omega) hg)
  · rintro (q | q)
    · rw [q]; exact List.prefix_refl _
    · exact q.trans h.1
theorem OM_t {x y g : List Nat} (h : IsLS S x y) (hg : S g) : g <+: x ↔ g <+: y := ⟨fun q => h.2.2 g q hg, fun q => q.trans h.1⟩
end Ac
def up {α : Type} (f : Nat → α) (i : Nat) (v : α) : Nat → α := fun j => if j = i then v else f j
theorem up_a {α : Type} (f : Nat → α) (i : Nat) (v : α) (j : Nat) : up f i v j = if j = i then v else f j := rfl
theorem up_eq {α : Type} {f : Nat → α} {i : Nat} {v : α} : up f i v i = v := by rw [up_a, if_pos rfl]
theorem up_ne {α : Type} {f : Nat → α} {i j : Nat} {v : α} (h : j ≠ i) : up f i v j = f j := by rw [up_a, if_neg h]
def tx (sv : Nat → Nat) : Nat → List Nat
  | 0 => []
  | j + 1 => sv j :: tx sv j
theorem tx_ext {sv sv' : Nat → Nat} : ∀ d, (∀ i, i < d → sv i = sv' i) → tx sv d = tx sv' d := by
  intro d
  induction d with
  | zero => intro _; rfl
  | succ d ih => intro h; rw [tx, tx, h d (by omega), ih (fun i hi => h i (by omega))]
/-! suffix automata: words with the latest letter first; x occurs at e iff x is a prefix of tx w e -/
section Sam
variable {w : Nat → Nat} {n N : Nat} {lab : Nat → List Nat} {lk nx : Nat → Nat}
def Oc (w : Nat → Nat) (n : Nat) (x : List Nat) (e : Nat) : Prop := e ≤ n ∧ x <+: tx w e
def Sb (w : Nat → Nat) (n : Nat) (x : List Nat) : Prop := ∃ e, Oc w n x e
/-- x occurs wherever y does -/
def OLE (w : Nat → Nat) (n : Nat) (y x : List Nat) : Prop := ∀ e, Oc w n y e → Oc w n x e
theorem Oc.pre {x y : List Nat} {e : Nat} (h : Oc w n y e) (p : x <+: y) : Oc w n x e := ⟨h.1, p.trans h.2⟩
theorem OLE_p {x y : List Nat} (p : x <+: y) : OLE w n y x := fun _ h => h.pre p
theorem OLE.tr {x y z : List Nat} (h : OLE w n x y) (h' : OLE w n y z) : OLE w n x z := fun e q => h' e (h e q)
theorem tx_len (e : Nat) : (tx w e).length = e := by
  induction e with
  | zero => rfl
  | succ e ih => rw [tx, List.length_cons, ih]
theorem Oc_c {c e : Nat} {x : List Nat} : Oc w n (c :: x) (e + 1) ↔ e + 1 ≤ n ∧ w e = c ∧ x <+: tx w e := by
  constructor
  · rintro ⟨h1, h2⟩
    rw [tx] at h2
    rcases pre_c h2 with q | ⟨z, q, hz⟩
    · cases q
    · injection q with q1 q2
      exact ⟨h1, q1.symm, by rw [q2]; exact hz⟩
  · rintro ⟨h1, h2, h3⟩
    exact ⟨h1, by rw [tx, h2]; exact cons_pre h3⟩
theorem Oc_0 {c : Nat} {x : List Nat} : ¬ Oc w n (c :: x) 0 := fun h => by
  have := pre_len h.2
  rw [tx_len, List.length_cons] at this
  omega
/-- the same ends, the same ends behind a letter -/
theorem OLE_c {c : Nat} {x y : List Nat} (h : OLE w n x y) : OLE w n (c :: x) (c :: y) := fun e q => by
  cases e with
  | zero => exact absurd q Oc_0
  | succ e =>
    obtain ⟨h1, h2, h3⟩ := Oc_c.mp q
    exact Oc_c.mpr ⟨h1, h2, (h e ⟨by omega, h3⟩).2⟩
theorem cmp {x y z : List Nat} (h : x <+: z) (h' : y <+: z) (l : x.length ≤ y.length) : x <+: y := List.prefix_of_prefix_length_le h h' l
/-- the automaton of the first n letters; links and edges: 0 none, v + 1 the state v -/
def SA (w : Nat → Nat) (n N : Nat) (lab : Nat → List Nat) (lk nx : Nat → Nat) (last : Nat) : Prop :=
  (0 < N ∧ lab 0 = [] ∧ lk 0 = 0) ∧ (∀ u v, u < N → v < N → lab u = lab v → u = v) ∧
  (∀ v, v < N → Sb w n (lab v) ∧ ∀ y, lab v <+: y → OLE w n (lab v) y → y = lab v) ∧
  (∀ x, Sb w n x → ∃ v, v < N ∧ x <+: lab v ∧ OLE w n x (lab v)) ∧
  (∀ v, v < N → v ≠ 0 → ∃ u, u < N ∧ lk v = u + 1 ∧ lab u <+: lab v ∧ (lab u).length < (lab v).length ∧ ∀ y, y <+: lab v → (lab u).length < y.length → OLE w n y (lab v)) ∧
  (∀ v c, v < N → c < 8 → (nx (v * 8 + c) = 0 ∧ ¬ Sb w n (c :: lab v)) ∨ ∃ u, u < N ∧ nx (v * 8 + c) = u + 1 ∧ Sb w n (c :: lab v) ∧ c :: lab v <+: lab u ∧ OLE w n (c :: lab v) (lab u)) ∧
  (last < N ∧ lab last = tx w n)
theorem Oc_nil {e : Nat} (h : e ≤ n) : Oc w n [] e := ⟨h, List.nil_prefix⟩
theorem SA_0 : SA w 0 1 (fun _ => []) (fun _ => 0) (fun _ => 0) 0 := by
  refine ⟨⟨by decide, rfl, rfl⟩, fun u v hu hv _ => by omega, fun v hv => ⟨⟨0, Oc_nil (Nat.le_refl _)⟩, fun y _ h => ?_⟩, fun x hx => ?_, fun v hv h => absurd (by omega) h, fun v c hv hc => Or.inl ⟨rfl, ?_⟩, by decide, rfl⟩
  · exact List.prefix_nil.mp (h 0 (Oc_nil (Nat.le_refl _))).2
  · obtain ⟨e, h1, h2⟩ := hx
    have : e = 0 := by omega
    rw [this] at h2
    exact ⟨0, by decide, h2, fun e' q => Oc_nil q.1⟩
  · rintro ⟨e, h1, h2⟩
    have : e = 0 := by omega
    rw [this] at h2
    exact absurd ⟨Nat.le_refl _, h2⟩ (Oc_0 (w := w) (n := 0))
/-- the class of a word is one state -/
theorem SA.un {last u v : Nat} {x : List Nat} (h : SA w n N lab lk nx last) (hu : u < N) (hv : v < N) (xs : Sb w n x) (h1 : x <+: lab u) (h2 : OLE w n x (lab u)) (h3 : x <+: lab v) (h4 : OLE w n x (lab v)) : u = v := by
  obtain ⟨e, he⟩ := xs
  have a := (h2 e he).2
  have b := (h4 e he).2
  refine h.2.1 u v hu hv ?_
  rcases Nat.le_total (lab u).length (lab v).length with l | l
  · exact ((h.2.2.1 u hu).2 _ (cmp a b l) (fun e' q => h4 e' (q.pre h1))).symm
  · exact (h.2.2.1 v hv).2 _ (cmp b a l) (fun e' q => h2 e' (q.pre h3))
/-- reading on -/
theorem SA.rd {last v c : Nat} {y : List Nat} (h : SA w n N lab lk nx last) (hv : v < N) (hc : c < 8) (h1 : y <+: lab v) (h2 : OLE w n y (lab v)) : (nx (v * 8 + c) = 0 ∧ ¬ Sb w n (c :: y)) ∨ ∃ u, u < N ∧ nx (v * 8 + c) = u + 1 ∧ Sb w n (c :: y) ∧ c :: y <+: lab u ∧ OLE w n (c :: y) (lab u) := by
  rcases h.2.2.2.2.2.1 v c hv hc with ⟨q1, q2⟩ | ⟨u, hu, q1, ⟨e, q2⟩, q3, q4⟩
  · exact Or.inl ⟨q1, fun ⟨e, he⟩ => q2 ⟨e, OLE_c h2 e he⟩⟩
  · exact Or.inr ⟨u, hu, q1, ⟨e, OLE_p (cons_pre h1) e q2⟩, (cons_pre h1).trans q3, (OLE_c h2).tr q4⟩
end Sam
/-! one more letter -/
section Ext
variable {w : Nat → Nat} {n N last t c : Nat} {lab : Nat → List Nat} {lk nx nx1 nx2 : Nat → Nat} {Z : List Nat}
theorem Oc_s {x : List Nat} {e : Nat} : Oc w (n + 1) x e ↔ Oc w n x e ∨ (e = n + 1 ∧ x <+: tx w (n + 1)) := by
  constructor
  · rintro ⟨h1, h2⟩
    by_cases q : e = n + 1
    · exact Or.inr ⟨q, by rw [← q]; exact h2⟩
    · exact Or.inl ⟨by omega, h2⟩
  · rintro (h | ⟨h1, h2⟩)
    · exact ⟨by have := h.1; omega, h.2⟩
    · exact ⟨by omega, by rw [h1]; exact h2⟩
theorem Oc_d {x : List Nat} {e : Nat} (h : Oc w (n + 1) x e) (he : e ≤ n) : Oc w n x e := ⟨he, h.2⟩
theorem Sb_s {x : List Nat} : Sb w (n + 1) x ↔ Sb w n x ∨ x <+: tx w (n + 1) := by
  constructor
  · rintro ⟨e, h⟩
    rcases Oc_s.mp h with q | q
    · exact Or.inl ⟨e, q⟩
    · exact Or.inr q.2
  · rintro (⟨e, h⟩ | h)
    · exact ⟨e, Oc_s.mpr (Or.inl h)⟩
    · exact ⟨n + 1, Oc_s.mpr (Or.inr ⟨rfl, h⟩)⟩
theorem OLE_s {x y : List Nat} (h : OLE w n x y) (h' : x <+: tx w (n + 1) → y <+: tx w (n + 1)) : OLE w (n + 1) x y := fun e q => by
  rcases Oc_s.mp q with q | q
  · exact Oc_s.mpr (Or.inl (h e q))
  · exact Oc_s.mpr (Or.inr ⟨q.1, h' q.2⟩)
theorem Sb_len {x : List Nat} (h : Sb w n x) : x.length ≤ n := by
  obtain ⟨e, h1, h2⟩ := h
  have := pre_len h2
  rw [tx_len] at this
  omega
/-- the longest suffix of the new text that the old one holds -/
def ZP (w : Nat → Nat) (n : Nat) (Z : List Nat) : Prop := Z <+: tx w (n + 1) ∧ Sb w n Z ∧ ∀ y, y <+: tx w (n + 1) → Sb w n y → y.length ≤ Z.length
theorem ZP.pre {x : List Nat} (hZ : ZP w n Z) (h : x <+: tx w (n + 1)) (hs : Sb w n x) : x <+: Z := cmp h hZ.1 (hZ.2.2 x h hs)
/-- a suffix of the new text stays within its class, but for the class of Z -/
theorem cls {v : Nat} {x : List Nat} (h : SA w n N lab lk nx last) (hZ : ZP w n Z) (ht : t < N) (t1 : Z <+: lab t) (t2 : OLE w n Z (lab t)) (hv : v < N) (hx : x <+: tx w (n + 1)) (hs : Sb w n x) (h1 : x <+: lab v) (h2 : OLE w n x (lab v)) : v = t ∨ lab v <+: Z := by
  have xz := hZ.pre hx hs
  obtain ⟨e, he⟩ := hZ.2.1
  have lv := (h2 e (he.pre xz)).2
  rcases Nat.le_total (lab v).length Z.length with l | l
  · exact Or.inr (cmp lv he.2 l)
  · left
    have zv := cmp he.2 lv l
    exact h.un hv ht hZ.2.1 zv (fun e' q => h2 e' (q.pre xz)) t1 t2
/-- the edges behind the first walk -/
def AE (w : Nat → Nat) (n N : Nat) (lab : Nat → List Nat) (nx nx1 : Nat → Nat) (c : Nat) (Z : List Nat) : Prop := (∀ v a, v < N → a < 8 → ((a = c ∧ lab v <+: tx w n ∧ Z.length < (lab v).length + 1) → nx1 (v * 8 + a) = N + 1) ∧ (¬ (a = c ∧ lab v <+: tx w n ∧ Z.length < (lab v).length + 1) → nx1 (v * 8 + a) = nx (v * 8 + a))) ∧ ∀ a, a < 8 → nx1 (N * 8 + a) = 0
theorem X_c (hc : w n = c) : tx w (n + 1) = c :: tx w n := by rw [tx, hc]
theorem c_pre (hc : w n = c) {a : Nat} {x : List Nat} : a :: x <+: tx w (n + 1) ↔ a = c ∧ x <+: tx w n := by
  rw [X_c hc]
  constructor
  · intro h
    rcases pre_c h with q | ⟨z, q, hz⟩
    · cases q
    · injection q with q1 q2
      exact ⟨q1, by rw [q2]; exact hz⟩
  · rintro ⟨rfl, h⟩
    exact cons_pre h
/-- the edges of an old state, seen from the new text: target by target -/
theorem edg (h : SA w n N lab lk nx last) (hc : w n = c) (hZ : ZP w n Z) (ht : t < N) (t1 : Z <+: lab t) (t2 : OLE w n Z (lab t)) (hA : AE w n N lab nx nx1 c Z) {v a : Nat} (hv : v < N) (ha : a < 8) :
    (nx1 (v * 8 + a) = 0 ∧ ¬ Sb w (n + 1) (a :: lab v)) ∨ (nx1 (v * 8 + a) = N + 1 ∧ a :: lab v <+: tx w (n + 1) ∧ ¬ Sb w n (a :: lab v)) ∨ ∃ u, u < N ∧ nx1 (v * 8 + a) = u + 1 ∧ Sb w n (a :: lab v) ∧ a :: lab v <+: lab u ∧ OLE w n (a :: lab v) (lab u) := by
  by_cases q : a = c ∧ lab v <+: tx w n ∧ Z.length < (lab v).length + 1
  · have px : a :: lab v <+: tx w (n + 1) := (c_pre hc).mpr ⟨q.1, q.2.1⟩
    refine Or.inr (Or.inl ⟨(hA.1 v a hv ha).1 q, px, fun s => ?_⟩)
    have := hZ.2.2 _ px s
    rw [List.length_cons] at this
    omega
  · rw [(hA.1 v a hv ha).2 q]
    rcases h.2.2.2.2.2.1 v a hv ha with ⟨q1, q2⟩ | k
    · refine Or.inl ⟨q1, fun s => ?_⟩
      rcases Sb_s.mp s with y | y
      · exact q2 y
      · obtain ⟨y1, y2⟩ := (c_pre hc).mp y
        refine q2 ?_
        -- then it is short, hence inside Z
        have l : ¬ Z.length < (lab v).length + 1 := fun l => q ⟨y1, y2, l⟩
        obtain ⟨e, he⟩ := hZ.2.1
        exact ⟨e, he.pre (cmp y hZ.1 (by rw [List.length_cons]; omega))⟩
    · exact Or.inr (Or.inr k)
theorem Xmax {y : List Nat} (h : tx w (n + 1) <+: y) (h' : OLE w (n + 1) (tx w (n + 1)) y) : y = tx w (n + 1) := pre_anti ((h' (n + 1) ⟨Nat.le_refl _, List.prefix_refl _⟩).2) h
theorem Xend {a : Nat} : ¬ Sb w n (a :: tx w n) := fun h => by
  have := Sb_len h
  rw [List.length_cons, tx_len] at this
  omega
/-- no state is split -/
theorem SA.ex (h : SA w n N lab lk nx last) (hc : w n = c) (hZ : ZP w n Z) (ht : t < N) (et : lab t = Z) (hA : AE w n N lab nx nx1 c Z) : SA w (n + 1) (N + 1) (up lab N (tx w (n + 1))) (up lk N (t + 1)) nx1 N := by
  have t1 : Z <+: lab t := by rw [et]; exact List.prefix_refl _
  have t2 : OLE w n Z (lab t) := by rw [et]; exact fun _ q => q
  have h' := h
  obtain ⟨⟨n0, l0, k0⟩, inj, mx, cov, lnk, edge, hl⟩ := h
  have ol : ∀ v, v < N → up lab N (tx w (n + 1)) v = lab v := fun v hv => up_ne (by omega)
  have lt : ∀ v, v < N → (lab v).length ≤ n := fun v hv => Sb_len (mx v hv).1
  have inZ : ∀ {v : Nat} {x : List Nat}, v < N → x <+: tx w (n + 1) → Sb w n x → x <+: lab v → OLE w n x (lab v) → lab v <+: tx w (n + 1) := fun {v x} hv hx hs h1 h2 => by
    rcases cls h' hZ ht t1 t2 hv hx hs h1 h2 with q | q
    · rw [q, et]; exact hZ.1
    · exact q.trans hZ.1
  have new : ∀ y, y <+: tx w (n + 1) → ¬ Sb w n y → OLE w (n + 1) y (tx w (n + 1)) := fun y hy ns e q => by
    rcases Oc_s.mp q with q | q
    · exact absurd ⟨e, q⟩ ns
    · rw [q.1]; exact ⟨Nat.le_refl _, List.prefix_refl _⟩
  refine ⟨⟨by omega, by rw [ol 0 n0]; exact l0, by rw [up_ne (by omega)]; exact k0⟩, fun u v hu hv e => ?_, fun v hv => ?_, fun x hx => ?_, fun v hv v0 => ?_, fun v a hv ha => ?_, by omega, by rw [up_eq]⟩
  · by_cases x : u = N
    · by_cases y : v = N
      · omega
      · rw [x, up_eq, ol v (by omega)] at e
        have := lt v (by omega)
        rw [← e, tx_len] at this
        omega
    · by_cases y : v = N
      · rw [y, up_eq, ol u (by omega)] at e
        have := lt u (by omega)
        rw [e, tx_len] at this
        omega
      · rw [ol u (by omega), ol v (by omega)] at e; exact inj u v (by omega) (by omega) e
  · by_cases x : v = N
    · rw [x, up_eq]
      exact ⟨Sb_s.mpr (Or.inr (List.prefix_refl _)), fun y h1 h2 => Xmax h1 h2⟩
    · rw [ol v (by omega)]
      have m := mx v (by omega)
      exact ⟨Sb_s.mpr (Or.inl m.1), fun y h1 h2 => m.2 y h1 (fun e q => Oc_d (h2 e (Oc_s.mpr (Or.inl q))) q.1)⟩
  · by_cases s : Sb w n x
    · obtain ⟨v, hv, h1, h2⟩ := cov x s
      exact ⟨v, by omega, by rw [ol v hv]; exact h1, by rw [ol v hv]; exact OLE_s h2 (fun p => inZ hv p s h1 h2)⟩
    · have p := (Sb_s.mp hx).resolve_left s
      exact ⟨N, by omega, by rw [up_eq]; exact p, by rw [up_eq]; exact new x p s⟩
  · by_cases x : v = N
    · refine ⟨t, by omega, by rw [x, up_eq], ?_, ?_, fun y hy ly => ?_⟩
      · rw [x, up_eq, ol t ht, et]; exact hZ.1
      · rw [x, up_eq, ol t ht, tx_len]; have := lt t ht; omega
      · rw [x, up_eq] at hy ⊢
        rw [ol t ht, et] at ly
        refine new y hy (fun s => ?_)
        have := hZ.2.2 y hy s
        omega
    · obtain ⟨u, hu, k1, k2, k3, k4⟩ := lnk v (by omega) v0
      refine ⟨u, by omega, by rw [up_ne x]; exact k1, by rw [ol u hu, ol v (by omega)]; exact k2, by rw [ol u hu, ol v (by omega)]; exact k3, fun y hy ly => ?_⟩
      rw [ol v (by omega)] at hy ⊢
      rw [ol u hu] at ly
      have s : Sb w n y := by obtain ⟨e, he⟩ := (mx v (by omega)).1; exact ⟨e, he.pre hy⟩
      exact OLE_s (k4 y hy ly) (fun p => inZ (by omega) p s hy (k4 y hy ly))
  · by_cases x : v = N
    · rw [x, up_eq]
      exact Or.inl ⟨hA.2 a ha, Xend⟩
    · have hv' : v < N := by omega
      rw [ol v hv']
      rcases edg h' hc hZ ht t1 t2 hA hv' ha with k | ⟨k1, k2, k3⟩ | ⟨u, hu, k1, k2, k3, k4⟩
      · exact Or.inl k
      · exact Or.inr ⟨N, by omega, k1, Sb_s.mpr (Or.inr k2), by rw [up_eq]; exact k2, by rw [up_eq]; exact new _ k2 k3⟩
      · exact Or.inr ⟨u, by omega, k1, Sb_s.mpr (Or.inl k2), by rw [ol u hu]; exact k3, by rw [ol u hu]; exact OLE_s k4 (fun p => inZ hu p k2 k3 k4)⟩
/-- the edges behind the second walk: the clone is N + 1 -/
def CE (w : Nat → Nat) (n N : Nat) (lab : Nat → List Nat) (nx1 nx2 : Nat → Nat) (c t : Nat) : Prop := (∀ v a, v < N → a < 8 → ((a = c ∧ lab v <+: tx w n ∧ nx1 (v * 8 + a) = t + 1) → nx2 (v * 8 + a) = N + 2) ∧ (¬ (a = c ∧ lab v <+: tx w n ∧ nx1 (v * 8 + a) = t + 1) → nx2 (v * 8 + a) = nx1 (v * 8 + a))) ∧ (∀ a, a < 8 → nx2 (N * 8 + a) = 0) ∧ ∀ a, a < 8 → nx2 ((N + 1) * 8 + a) = nx1 (t * 8 + a)
/-- the state t is split -/
theorem SA.cx (h : SA w n N lab lk nx last) (hc : w n = c) (hZ : ZP w n Z) (ht : t < N) (t1 : Z <+: lab t) (t2 : OLE w n Z (lab t)) (tn : lab t ≠ Z) (z0 : Z ≠ []) (hA : AE w n N lab nx nx1 c Z) (hE : CE w n N lab nx1 nx2 c t) :
    SA w (n + 1) (N + 2) (up (up lab N (tx w (n + 1))) (N + 1) Z) (up (up (up lk (N + 1) (lk t)) t (N + 2)) N (N + 2)) nx2 N := by
  have h' := h
  obtain ⟨⟨n0, l0, k0⟩, inj, mx, cov, lnk, edge, hl⟩ := h
  obtain ⟨L, hL⟩ : ∃ L, L = up (up lab N (tx w (n + 1))) (N + 1) Z := ⟨_, rfl⟩
  rw [← hL]
  have ol : ∀ v, v < N → L v = lab v := fun v hv => by rw [hL, up_ne (by omega), up_ne (by omega)]
  have oN : L N = tx w (n + 1) := by rw [hL, up_ne (by omega), up_eq]
  have oC : L (N + 1) = Z := by rw [hL, up_eq]
  have t0 : t ≠ 0 := fun e => by rw [e, l0] at t1; exact z0 (List.prefix_nil.mp t1)
  have lt : ∀ v, v < N → (lab v).length ≤ n := fun v hv => Sb_len (mx v hv).1
  have lZ : Z.length ≤ n := Sb_len hZ.2.1
  have inZ : ∀ {v : Nat} {x : List Nat}, v < N → v ≠ t → x <+: tx w (n + 1) → Sb w n x → x <+: lab v → OLE w n x (lab v) → lab v <+: tx w (n + 1) := fun {v x} hv hne hx hs h1 h2 => by
    rcases cls h' hZ ht t1 t2 hv hx hs h1 h2 with q | q
    · exact absurd q hne
    · exact q.trans hZ.1
  have new : ∀ y, y <+: tx w (n + 1) → ¬ Sb w n y → OLE w (n + 1) y (tx w (n + 1)) := fun y hy ns e q => by
    rcases Oc_s.mp q with q | q
    · exact absurd ⟨e, q⟩ ns
    · rw [q.1]; exact ⟨Nat.le_refl _, List.prefix_refl _⟩
  have Zl : ∀ v, v < N → lab v ≠ Z := fun v hv e => by
    have := h'.un hv ht hZ.2.1 (by rw [e]; exact List.prefix_refl _) (by rw [e]; exact fun _ q => q) t1 t2
    rw [this] at e
    exact tn e
  -- a word of the class of t that is a suffix of the new text
  have inC : ∀ {x : List Nat}, x <+: tx w (n + 1) → Sb w n x → x <+: lab t → OLE w n x (lab t) → x <+: Z ∧ OLE w (n + 1) x Z := fun {x} hx hs h1 h2 => by
    refine ⟨hZ.pre hx hs, OLE_s (fun e q => ?_) (fun _ => hZ.1)⟩
    exact (h2 e q).pre t1
  refine ⟨⟨by omega, by rw [ol 0 n0]; exact l0, by rw [up_ne (by omega), up_ne (fun e => t0 e.symm), up_ne (by omega)]; exact k0⟩, fun u v hu hv e => ?_, fun v hv => ?_, fun x hx => ?_, fun v hv v0 => ?_, fun v a hv ha => ?_, by omega, oN⟩
  · have key : ∀ a, a < N + 2 → a < N ∨ a = N ∨ a = N + 1 := fun a ha => by omega
    have nN : ∀ a, a < N → lab a ≠ tx w (n + 1) := fun a ha e => by have := lt a ha; rw [e, tx_len] at this; omega
    have nZ : tx w (n + 1) ≠ Z := fun e => by rw [← e, tx_len] at lZ; omega
    rcases key u hu with x | x | x <;> rcases key v hv with y | y | y
    · rw [ol u x, ol v y] at e; exact inj u v x y e
    · rw [ol u x, y, oN] at e; exact absurd e (nN u x)
    · rw [ol u x, y, oC] at e; exact absurd e (Zl u x)
    · rw [x, oN, ol v y] at e; exact absurd e.symm (nN v y)
    · omega
    · rw [x, y, oN, oC] at e; exact absurd e nZ
    · rw [x, oC, ol v y] at e; exact absurd e.symm (Zl v y)
    · rw [x, y, oN, oC] at e; exact absurd e.symm nZ
    · omega
  · by_cases x : v = N
    · rw [x, oN]
      exact ⟨Sb_s.mpr (Or.inr (List.prefix_refl _)), fun y h1 h2 => Xmax h1 h2⟩
    · by_cases x' : v = N + 1
      · rw [x', oC]
        refine ⟨Sb_s.mpr (Or.inl hZ.2.1), fun y h1 h2 => ?_⟩
        have py : y <+: tx w (n + 1) := (h2 (n + 1) (Oc_s.mpr (Or.inr ⟨rfl, hZ.1⟩))).2
        obtain ⟨e, he⟩ := hZ.2.1
        have sy : Sb w n y := ⟨e, Oc_d (h2 e (Oc_s.mpr (Or.inl he))) he.1⟩
        exact pre_anti (hZ.pre py sy) h1
      · rw [ol v (by omega)]
        have m := mx v (by omega)
        exact ⟨Sb_s.mpr (Or.inl m.1), fun y h1 h2 => m.2 y h1 (fun e q => Oc_d (h2 e (Oc_s.mpr (Or.inl q))) q.1)⟩
  · by_cases s : Sb w n x
    · obtain ⟨v, hv, h1, h2⟩ := cov x s
      by_cases p : x <+: tx w (n + 1)
      · by_cases e : v = t
        · rw [e] at h1 h2
          have := inC p s h1 h2
          exact ⟨N + 1, by omega, by rw [oC]; exact this.1, by rw [oC]; exact this.2⟩
        · exact ⟨v, by omega, by rw [ol v hv]; exact h1, by rw [ol v hv]; exact OLE_s h2 (fun p => inZ hv e p s h1 h2)⟩
      · exact ⟨v, by omega, by rw [ol v hv]; exact h1, by rw [ol v hv]; exact OLE_s h2 (fun q => absurd q p)⟩
    · have p := (Sb_s.mp hx).resolve_left s
      exact ⟨N, by omega, by rw [oN]; exact p, by rw [oN]; exact new x p s⟩
  · by_cases x : v = N
    · refine ⟨N + 1, by omega, by rw [x, up_eq], ?_, ?_, fun y hy ly => ?_⟩
      · rw [x, oN, oC]; exact hZ.1
      · rw [x, oN, oC, tx_len]; omega
      · rw [x, oN] at hy ⊢
        rw [oC] at ly
        refine new y hy (fun s => ?_)
        have := hZ.2.2 y hy s
        omega
    · by_cases x' : v = t
      · refine ⟨N + 1, by omega, by rw [up_ne x, x', up_eq], ?_, ?_, fun y hy ly => ?_⟩
        · rw [x', ol t ht, oC]; exact t1
        · rw [x', ol t ht, oC]
          have := pre_len t1
          rcases Nat.lt_or_ge Z.length (lab t).length with q | q
          · exact q
          · exact absurd (pre_eq t1 (by omega)).symm tn
        · rw [x', ol t ht] at hy ⊢
          rw [oC] at ly
          have zy : Z <+: y := cmp t1 hy (by omega)
          have s : Sb w n y := by obtain ⟨e, he⟩ := (mx t ht).1; exact ⟨e, he.pre hy⟩
          refine OLE_s (fun e q => t2 e (q.pre zy)) (fun p => ?_)
          have := hZ.2.2 y p s
          omega
      · by_cases x'' : v = N + 1
        · obtain ⟨u, hu, k1, k2, k3, k4⟩ := lnk t ht t0
          -- the old link of t is shorter than Z
          have sh : (lab u).length < Z.length := by
            rcases Nat.lt_or_ge (lab u).length Z.length with q | q
            · exact q
            · exfalso
              have zu : Z <+: lab u := cmp t1 k2 q
              have := (mx u hu).2 (lab t) k2 (fun e o => t2 e (o.pre zu))
              rw [this] at k3
              omega
          have uZ : lab u <+: Z := cmp k2 t1 (by omega)
          refine ⟨u, by omega, by rw [up_ne x, up_ne x', x'', up_eq]; exact k1, ?_, ?_, fun y hy ly => ?_⟩
          · rw [ol u hu, x'', oC]; exact uZ
          · rw [ol u hu, x'', oC]; exact sh
          · rw [x'', oC] at hy ⊢
            rw [ol u hu] at ly
            exact OLE_s (fun e q => (k4 y (hy.trans t1) ly e q).pre t1) (fun _ => hZ.1)
        · have hv' : v < N := by omega
          obtain ⟨u, hu, k1, k2, k3, k4⟩ := lnk v hv' v0
          refine ⟨u, by omega, by rw [up_ne x, up_ne x', up_ne x'']; exact k1, by rw [ol u hu, ol v hv']; exact k2, by rw [ol u hu, ol v hv']; exact k3, fun y hy ly => ?_⟩
          rw [ol v hv'] at hy ⊢
          rw [ol u hu] at ly
          have s : Sb w n y := by obtain ⟨e, he⟩ := (mx v hv').1; exact ⟨e, he.pre hy⟩
          exact OLE_s (k4 y hy ly) (fun p => inZ hv' x' p s hy (k4 y hy ly))
  · by_cases x : v = N
    · rw [x, oN]
      exact Or.inl ⟨hE.2.1 a ha, Xend⟩
    · by_cases x' : v = N + 1
      · rw [x', oC, hE.2.2 a ha]
        -- behind Z as behind the label of t
        have zz : ∀ {e}, Oc w n (a :: Z) e ↔ Oc w n (a :: lab t) e := fun {e} => ⟨OLE_c t2 e, OLE_p (cons_pre t1) e⟩
        rcases edg h' hc hZ ht t1 t2 hA ht ha with ⟨k1, k2⟩ | ⟨k1, k2, k3⟩ | ⟨u, hu, k1, ⟨e, k2⟩, k3, k4⟩
        · refine Or.inl ⟨k1, fun s => ?_⟩
          rcases Sb_s.mp s with ⟨e, y⟩ | y
          · exact k2 (Sb_s.mpr (Or.inl ⟨e, zz.mp y⟩))
          · obtain ⟨y1, y2⟩ := (c_pre hc).mp y
            have : lab t <+: tx w n := (t2 n ⟨Nat.le_refl _, y2⟩).2
            exact k2 (Sb_s.mpr (Or.inr ((c_pre hc).mpr ⟨y1, this⟩)))
        · obtain ⟨y1, y2⟩ := (c_pre hc).mp k2
          have p : a :: Z <+: tx w (n + 1) := (c_pre hc).mpr ⟨y1, t1.trans y2⟩
          refine Or.inr ⟨N, by omega, k1, Sb_s.mpr (Or.inr p), by rw [oN]; exact p, by rw [oN]; exact new _ p (fun ⟨e, s⟩ => k3 ⟨e, zz.mp s⟩)⟩
        · refine Or.inr ⟨u, by omega, k1, Sb_s.mpr (Or.inl ⟨e, zz.mpr k2⟩), by rw [ol u hu]; exact (cons_pre t1).trans k3, ?_⟩
          rw [ol u hu]
          refine OLE_s (fun e' q => k4 e' (zz.mp q)) (fun p => ?_)
          -- were it a suffix, t would have been passed by the first walk
          exfalso
          obtain ⟨y1, y2⟩ := (c_pre hc).mp p
          have lt' : lab t <+: tx w n := (t2 n ⟨Nat.le_refl _, y2⟩).2
          have px : a :: lab t <+: tx w (n + 1) := (c_pre hc).mpr ⟨y1, lt'⟩
          have := hZ.2.2 _ px ⟨e, k2⟩
          have := pre_len t1
          rw [List.length_cons] at *
          omega
      · have hv' : v < N := by omega
        rw [ol v hv']
        by_cases q : a = c ∧ lab v <+: tx w n ∧ nx1 (v * 8 + a) = t + 1
        · rw [(hE.1 v a hv' ha).1 q]
          rcases edg h' hc hZ ht t1 t2 hA hv' ha with ⟨k1, k2⟩ | ⟨k1, k2, k3⟩ | ⟨u, hu, k1, k2, k3, k4⟩
          · rw [q.2.2] at k1; omega
          · rw [q.2.2] at k1; omega
          · have eu : u = t := by have := q.2.2; omega
            rw [eu] at k3 k4
            have p := (c_pre hc).mpr ⟨q.1, q.2.1⟩
            have := inC p k2 k3 k4
            exact Or.inr ⟨N + 1, by omega, rfl, Sb_s.mpr (Or.inl k2), by rw [oC]; exact this.1, by rw [oC]; exact this.2⟩
        · rw [(hE.1 v a hv' ha).2 q]
          rcases edg h' hc hZ ht t1 t2 hA hv' ha with k | ⟨k1, k2, k3⟩ | ⟨u, hu, k1, k2, k3, k4⟩
          · exact Or.inl k
          · exact Or.inr ⟨N, by omega, k1, Sb_s.mpr (Or.inr k2), by rw [oN]; exact k2, by rw [oN]; exact new _ k2 k3⟩
          · refine Or.inr ⟨u, by omega, k1, Sb_s.mpr (Or.inl k2), by rw [ol u hu]; exact k3, ?_⟩
            rw [ol u hu]
            refine OLE_s k4 (fun p => ?_)
            by_cases eu : u = t
            · obtain ⟨y1, y2⟩ := (c_pre hc).mp p
              exact absurd ⟨y1, y2, by rw [k1, eu]⟩ q
            · exact inZ hu eu p k2 k3 k4
end Ext
/-! the two walks along the links; first ends; clones -/
section Wk
variable {w : Nat → Nat} {n N last t c p : Nat} {lab : Nat → List Nat} {lk nx nxc nx1 : Nat → Nat} {Z : List Nat}
/-- the states passed: suffixes longer than that of p (0: all) -/
def PS (w : Nat → Nat) (n : Nat) (lab : Nat → List Nat) (p v : Nat) : Prop := lab v <+: tx w n ∧ (p = 0 ∨ (lab (p - 1)).length < (lab v).length)
/-- first walk: at p -/
def AI (w : Nat → Nat) (n N : Nat) (lab : Nat → List Nat) (nx nxc : Nat → Nat) (c p : Nat) : Prop :=
  (∀ v a, v < N → a < 8 → ((a = c ∧ PS w n lab p v) → nxc (v * 8 + a) = N + 1 ∧ nx (v * 8 + a) = 0) ∧ (¬ (a = c ∧ PS w n lab p v) → nxc (v * 8 + a) = nx (v * 8 + a))) ∧ (∀ a, a < 8 → nxc (N * 8 + a) = 0) ∧ (p ≠ 0 → p - 1 < N ∧ lab (p - 1) <+: tx w n)
theorem AI_0 (h : SA w n N lab lk nx last) (hr : ∀ a, a < 8 → nxc (N * 8 + a) = 0) (he : ∀ v a, v < N → a < 8 → nxc (v * 8 + a) = nx (v * 8 + a)) : AI w n N lab nx nxc c (last + 1) := by
  obtain ⟨l1, l2⟩ := h.2.2.2.2.2.2
  refine ⟨fun v a hv ha => ⟨fun ⟨_, q1, q2⟩ => ?_, fun _ => he v a hv ha⟩, hr, fun _ => ⟨l1, by show lab last <+: _; rw [l2]; exact List.prefix_refl _⟩⟩
  exfalso
  have := pre_len q1
  rw [tx_len] at this
  rcases q2 with q2 | q2
  · omega
  · have q2 : (lab last).length < (lab v).length := q2
    rw [l2, tx_len] at q2
    omega
theorem AI.lk0 (h : SA w n N lab lk nx last) {q : Nat} (hq : q < N) : (lk q = 0 ∧ q = 0) ∨ (∃ u, u < N ∧ lk q = u + 1 ∧ lab u <+: lab q ∧ (lab u).length < (lab q).length) := by
  by_cases z : q = 0
  · exact Or.inl ⟨by rw [z]; exact h.1.2.2, z⟩
  · obtain ⟨u, a, b, d, e, _⟩ := h.2.2.2.2.1 q hq z
    exact Or.inr ⟨u, a, b, d, e⟩
/-- passing one state more -/
theorem PS_s (h : SA w n N lab lk nx last) {q v : Nat} (hq : q < N) (pq : lab q <+: tx w n) (hv : v < N) : PS w n lab (lk q) v ↔ PS w n lab (q + 1) v ∨ v = q := by
  constructor
  · rintro ⟨h1, h2⟩
    rcases Nat.lt_or_ge (lab q).length (lab v).length with l | l
    · exact Or.inl ⟨h1, Or.inr l⟩
    · right
      have vq : lab v <+: lab q := cmp h1 pq l
      by_cases z : q = 0
      · rw [z, h.1.2.1] at vq
        exact h.2.1 v q hv hq (by rw [z, h.1.2.1]; exact List.prefix_nil.mp vq)
      · obtain ⟨u, hu, k1, k2, k3, k4⟩ := h.2.2.2.2.1 q hq z
        rw [k1] at h2
        have h2 : (lab u).length < (lab v).length := h2.resolve_left (by omega)
        exact h.2.1 v q hv hq ((h.2.2.1 v hv).2 (lab q) vq (k4 (lab v) vq h2)).symm
  · rintro (⟨h1, h2⟩ | rfl)
    · refine ⟨h1, ?_⟩
      have h2 : (lab q).length < (lab v).length := h2.resolve_left (by omega)
      rcases AI.lk0 h hq with k | ⟨u, _, k1, _, k3⟩
      · exact Or.inl k.1
      · rw [k1]; exact Or.inr (by show (lab u).length < _; omega)
    · refine ⟨pq, ?_⟩
      rcases AI.lk0 h hq with k | ⟨u, _, k1, _, k3⟩
      · exact Or.inl k.1
      · rw [k1]; exact Or.inr k3
theorem AI_s (h : SA w n N lab lk nx last) {q : Nat} (hA : AI w n N lab nx nxc c (q + 1)) (hc : c < 8) (hz : nxc (q * 8 + c) = 0) : AI w n N lab nx (up nxc (q * 8 + c) (N + 1)) c (lk q) := by
  obtain ⟨a1, a2, a3⟩ := hA
  obtain ⟨hq, pq⟩ := a3 (by omega)
  have hq : q < N := hq
  have pq : lab q <+: tx w n := pq
  have nq : nx (q * 8 + c) = 0 := by
    rw [← (a1 q c hq hc).2 (fun k => by have := k.2.2.resolve_left (by omega); have this : (lab q).length < (lab q).length := this; omega)]
    exact hz
  have ne : ∀ {v a : Nat}, a < 8 → ¬ (v = q ∧ a = c) → v * 8 + a ≠ q * 8 + c := fun ha k e => k (by constructor <;> omega)
  refine ⟨fun v a hv ha => ?_, fun a ha => by rw [up_ne (by omega)]; exact a2 a ha, fun k => ?_⟩
  · by_cases e : v = q ∧ a = c
    · obtain ⟨e1, e2⟩ := e
      refine ⟨fun _ => by rw [e1, e2, up_eq]; exact ⟨rfl, nq⟩, fun k => absurd ⟨e2, (PS_s h hq pq hv).mpr (Or.inr e1)⟩ k⟩
    · rw [up_ne (ne ha e)]
      by_cases k : a = c ∧ PS w n lab (lk q) v
      · refine ⟨fun _ => ?_, fun k' => absurd k k'⟩
        rcases (PS_s h hq pq hv).mp k.2 with y | y
        · exact (a1 v a hv ha).1 ⟨k.1, y⟩
        · exact absurd ⟨y, k.1⟩ e
      · exact ⟨fun k' => absurd k' k, fun _ => (a1 v a hv ha).2 (fun y => k ⟨y.1, (PS_s h hq pq hv).mpr (Or.inl y.2)⟩)⟩
  · rcases AI.lk0 h hq with y | ⟨u, hu, y1, y2, y3⟩
    · exact absurd y.1 k
    · rw [y1]; exact ⟨hu, y2.trans pq⟩
/-- a word's class among the suffixes -/
theorem sfx (h : SA w n N lab lk nx last) {y : List Nat} (hy : y <+: tx w n) : ∃ v, v < N ∧ lab v <+: tx w n ∧ y <+: lab v ∧ OLE w n y (lab v) := by
  obtain ⟨v, hv, h1, h2⟩ := h.2.2.2.1 y ⟨n, Nat.le_refl _, hy⟩
  exact ⟨v, hv, (h2 n ⟨Nat.le_refl _, hy⟩).2, h1, h2⟩
/-- no state has the edge -/
theorem AI_n (h : SA w n N lab lk nx last) (hw : w n = c) (hc : c < 8) (hA : AI w n N lab nx nxc c 0) : ZP w n [] ∧ AE w n N lab nx nxc c [] := by
  obtain ⟨a1, a2, a3⟩ := hA
  refine ⟨⟨List.nil_prefix, ⟨0, Oc_nil (by omega)⟩, fun y hy sy => ?_⟩, fun v a hv ha => ⟨fun k => ((a1 v a hv ha).1 ⟨k.1, k.2.1, Or.inl rfl⟩).1, fun k => (a1 v a hv ha).2 (fun y => k ⟨y.1, y.2.1, by rw [List.length_nil]; omega⟩)⟩, a2⟩
  cases y with
  | nil => exact Nat.le_refl _
  | cons a y =>
    exfalso
    obtain ⟨rfl, hy⟩ := (c_pre hw).mp hy
    obtain ⟨v, hv, pv, h1, h2⟩ := sfx h hy
    have z := ((a1 v a hv hc).1 ⟨rfl, pv, Or.inl rfl⟩).2
    rcases h.2.2.2.2.2.1 v a hv hc with k | ⟨u, _, k, _⟩
    · obtain ⟨e, he⟩ := sy
      exact k.2 ⟨e, OLE_c h2 e he⟩
    · omega
/-- q has it -/
theorem AI_y (h : SA w n N lab lk nx last) (hw : w n = c) (hc : c < 8) {q : Nat} (hA : AI w n N lab nx nxc c (q + 1)) (hz : nxc (q * 8 + c) ≠ 0) : q < N ∧ lab q <+: tx w n ∧ ZP w n (c :: lab q) ∧ AE w n N lab nx nxc c (c :: lab q) ∧ ∃ t, t < N ∧ nxc (q * 8 + c) = t + 1 ∧ c :: lab q <+: lab t ∧ OLE w n (c :: lab q) (lab t) := by
  obtain ⟨a1, a2, a3⟩ := hA
  obtain ⟨hq, pq⟩ := a3 (by omega)
  have hq : q < N := hq
  have pq : lab q <+: tx w n := pq
  have eq : nxc (q * 8 + c) = nx (q * 8 + c) := (a1 q c hq hc).2 (fun k => by have := k.2.2.resolve_left (by omega); have this : (lab q).length < (lab q).length := this; omega)
  rcases h.2.2.2.2.2.1 q c hq hc with k | ⟨t, ht, k1, k2, k3, k4⟩
  · rw [eq] at hz; exact absurd k.1 hz
  refine ⟨hq, pq, ⟨(c_pre hw).mpr ⟨rfl, pq⟩, k2, fun y hy sy => ?_⟩, ⟨fun v a hv ha => ⟨fun k => ((a1 v a hv ha).1 ⟨k.1, k.2.1, Or.inr ?_⟩).1, fun k => (a1 v a hv ha).2 (fun y => k ⟨y.1, y.2.1, ?_⟩)⟩, a2⟩, t, ht, by rw [eq]; exact k1, k3, k4⟩
  · cases y with
    | nil => exact Nat.zero_le _
    | cons a y =>
      obtain ⟨rfl, hy⟩ := (c_pre hw).mp hy
      obtain ⟨v, hv, pv, h1, h2⟩ := sfx h hy
      have l1 := pre_len h1
      rw [List.length_cons, List.length_cons]
      rcases Nat.lt_or_ge (lab q).length (lab v).length with l | l
      · exfalso
        have z := ((a1 v a hv hc).1 ⟨rfl, pv, Or.inr l⟩).2
        rcases h.2.2.2.2.2.1 v a hv hc with k | ⟨u, _, k, _⟩
        · obtain ⟨e, he⟩ := sy
          exact k.2 ⟨e, OLE_c h2 e he⟩
        · omega
      · omega
  · have := k.2.2
    rw [List.length_cons] at this
    show (lab q).length < (lab v).length
    omega
  · have := y.2.2.resolve_left (by omega)
    have this : (lab q).length < (lab v).length := this
    rw [List.length_cons]
    omega
/-- second walk: at p; those passed whose edge led to t lead to the clone -/
def CI (w : Nat → Nat) (n N : Nat) (lab : Nat → List Nat) (nx1 nxc : Nat → Nat) (c t zl p : Nat) : Prop :=
  (∀ v a, v < N → a < 8 → ((a = c ∧ PS w n lab p v ∧ nx1 (v * 8 + a) = t + 1) → nxc (v * 8 + a) = N + 2) ∧ (¬ (a = c ∧ PS w n lab p v ∧ nx1 (v * 8 + a) = t + 1) → nxc (v * 8 + a) = nx1 (v * 8 + a))) ∧ (∀ a, a < 8 → nxc (N * 8 + a) = 0) ∧ (∀ a, a < 8 → nxc ((N + 1) * 8 + a) = nx1 (t * 8 + a)) ∧ (p ≠ 0 → p - 1 < N ∧ lab (p - 1) <+: tx w n ∧ (lab (p - 1)).length < zl)
theorem CI_0 {q : Nat} (hA : AE w n N lab nx nx1 c (c :: lab q)) (hq : q < N) (pq : lab q <+: tx w n) (ht : t < N) (hr : ∀ a, a < 8 → nxc ((N + 1) * 8 + a) = nx1 (t * 8 + a)) (he : ∀ v a, v < N + 1 → a < 8 → nxc (v * 8 + a) = nx1 (v * 8 + a)) : CI w n N lab nx1 nxc c t ((lab q).length + 1) (q + 1) := by
  refine ⟨fun v a hv ha => ⟨fun ⟨k1, k2, k3⟩ => ?_, fun _ => he v a (by omega) ha⟩, fun a ha => by rw [he N a (by omega) ha]; exact hA.2 a ha, hr, fun _ => ⟨hq, pq, by show (lab q).length < _; omega⟩⟩
  exfalso
  have l := k2.2.resolve_left (by omega)
  have l : (lab q).length < (lab v).length := l
  have := (hA.1 v a hv ha).1 ⟨k1, k2.1, by rw [List.length_cons]; omega⟩
  omega
theorem CI_s (h : SA w n N lab lk nx last) {q zl : Nat} (hC : CI w n N lab nx1 nxc c t zl (q + 1)) (hc : c < 8) (hz : nxc (q * 8 + c) = t + 1) : CI w n N lab nx1 (up nxc (q * 8 + c) (N + 2)) c t zl (lk q) := by
  obtain ⟨a1, a2, a3, a4⟩ := hC
  obtain ⟨hq, pq, lq⟩ := a4 (by omega)
  have lq : (lab q).length < zl := lq
  have hq : q < N := hq
  have pq : lab q <+: tx w n := pq
  have nq : nx1 (q * 8 + c) = t + 1 := by
    rw [← (a1 q c hq hc).2 (fun k => by have := k.2.1.2.resolve_left (by omega); have this : (lab q).length < (lab q).length := this; omega)]
    exact hz
  have ne : ∀ {v a : Nat}, a < 8 → ¬ (v = q ∧ a = c) → v * 8 + a ≠ q * 8 + c := fun ha k e => k (by constructor <;> omega)
  refine ⟨fun v a hv ha => ?_, fun a ha => by rw [up_ne (by omega)]; exact a2 a ha, fun a ha => by rw [up_ne (by omega)]; exact a3 a ha, fun k => ?_⟩
  · by_cases e : v = q ∧ a = c
    · obtain ⟨e1, e2⟩ := e
      refine ⟨fun _ => by rw [e1, e2, up_eq], fun k => absurd ⟨e2, (PS_s h hq pq hv).mpr (Or.inr e1), by rw [e1, e2]; exact nq⟩ k⟩
    · rw [up_ne (ne ha e)]
      by_cases k : a = c ∧ PS w n lab (lk q) v ∧ nx1 (v * 8 + a) = t + 1
      · refine ⟨fun _ => ?_, fun k' => absurd k k'⟩
        rcases (PS_s h hq pq hv).mp k.2.1 with y | y
        · exact (a1 v a hv ha).1 ⟨k.1, y, k.2.2⟩
        · exact absurd ⟨y, k.1⟩ e
      · exact ⟨fun k' => absurd k' k, fun _ => (a1 v a hv ha).2 (fun y => k ⟨y.1, (PS_s h hq pq hv).mpr (Or.inl y.2.1), y.2.2⟩)⟩
  · rcases AI.lk0 h hq with y | ⟨u, hu, y1, y2, y3⟩
    · exact absurd y.1 k
    · rw [y1]; exact ⟨hu, y2.trans pq, by show (lab u).length < zl; omega⟩
/-- the second walk ends: all such edges are turned -/
theorem CI_e (h : SA w n N lab lk nx last) (hw : w n = c) (hc : c < 8) (hZ : ZP w n Z) (ht : t < N) (t1 : Z <+: lab t) (t2 : OLE w n Z (lab t)) (hA : AE w n N lab nx nx1 c Z) (hC : CI w n N lab nx1 nxc c t Z.length p) (hp : p = 0 ∨ nxc ((p - 1) * 8 + c) ≠ t + 1) : CE w n N lab nx1 nxc c t := by
  obtain ⟨a1, a2, a3, a4⟩ := hC
  refine ⟨fun v a hv ha => ⟨fun k => (a1 v a hv ha).1 ⟨k.1, ⟨k.2.1, ?_⟩, k.2.2⟩, fun k => (a1 v a hv ha).2 (fun y => k ⟨y.1, y.2.1.1, y.2.2⟩)⟩, a2, a3⟩
  rcases hp with hp | hp
  · exact Or.inl hp
  by_cases p0 : p = 0
  · exact Or.inl p0
  right
  obtain ⟨hr, pr, lr⟩ := a4 p0
  have hps : ¬ PS w n lab p (p - 1) := fun k => by have := k.2.resolve_left p0; omega
  generalize p - 1 = r at *
  rcases Nat.lt_or_ge (lab r).length (lab v).length with l | l
  · exact l
  exfalso
  obtain ⟨k1, k2, k3⟩ := k
  -- v is not longer than r: then r leads to t as well
  have vr : lab v <+: lab r := cmp k2 pr l
  have nr : ¬ nx1 (r * 8 + c) = t + 1 := by
    rw [← (a1 r c hr hc).2 (fun k => hps k.2.1)]
    exact hp
  rw [k1] at k3
  rcases edg h hw hZ ht t1 t2 hA hv hc with ⟨y, _⟩ | ⟨y, _⟩ | ⟨u, hu, y1, y2, y3, y4⟩
  · omega
  · omega
  have eu : u = t := by omega
  rw [eu] at y3 y4
  rcases edg h hw hZ ht t1 t2 hA hr hc with ⟨_, y⟩ | ⟨_, y, y'⟩ | ⟨u', hu', z1, z2, z3, z4⟩
  · exact y (Sb_s.mpr (Or.inr ((c_pre hw).mpr ⟨rfl, pr⟩)))
  · obtain ⟨e, he⟩ := hZ.2.1
    exact y' ⟨e, he.pre (cmp y hZ.1 (by rw [List.length_cons]; omega))⟩
  · have zr : c :: lab r <+: Z := hZ.pre ((c_pre hw).mpr ⟨rfl, pr⟩) z2
    have : u' = t := h.un hu' ht z2 z3 z4 (zr.trans t1) (fun e q => y4 e (q.pre (cons_pre vr)))
    rw [this] at z1
    exact nr z1
end Wk
/-! first ends, clones, counts -/
section Fe
variable {w : Nat → Nat} {n N last t c : Nat} {lab : Nat → List Nat} {lk nx nx1 nx2 fe : Nat → Nat} {cl : Nat → Bool} {Z : List Nat}
def FE (w : Nat → Nat) (n N : Nat) (lab : Nat → List Nat) (fe : Nat → Nat) : Prop := ∀ v, v < N → v ≠ 0 → Oc w n (lab v) (fe v + 1) ∧ ∀ e, Oc w n (lab v) e → fe v + 1 ≤ e
theorem Oc_X {e : Nat} (h : Oc w (n + 1) (tx w (n + 1)) e) : e = n + 1 := by
  have := pre_len h.2
  rw [tx_len, tx_len] at this
  have := h.1
  omega
theorem FE.old {v : Nat} (h : FE w n N lab fe) (hv : v < N) (v0 : v ≠ 0) : Oc w (n + 1) (lab v) (fe v + 1) ∧ ∀ e, Oc w (n + 1) (lab v) e → fe v + 1 ≤ e := by
  obtain ⟨h1, h2⟩ := h v hv v0
  refine ⟨Oc_s.mpr (Or.inl h1), fun e q => ?_⟩
  rcases Oc_s.mp q with q | q
  · exact h2 e q
  · have := h1.1; omega
theorem FE.ex (h : FE w n N lab fe) : FE w (n + 1) (N + 1) (up lab N (tx w (n + 1))) (up fe N n) := fun v hv v0 => by
  by_cases x : v = N
  · rw [x, up_eq, up_eq]
    exact ⟨⟨Nat.le_refl _, List.prefix_refl _⟩, fun e q => Nat.le_of_eq (Oc_X q).symm⟩
  · rw [up_ne x, up_ne x]; exact h.old (by omega) v0
theorem FE.cx (h : FE w n N lab fe) (ht : t < N) (t0 : t ≠ 0) (t1 : Z <+: lab t) (t2 : OLE w n Z (lab t)) : FE w (n + 1) (N + 2) (up (up lab N (tx w (n + 1))) (N + 1) Z) (up (up fe N n) (N + 1) (fe t)) := fun v hv v0 => by
  by_cases x : v = N
  · rw [x, up_ne (by omega), up_eq, up_ne (by omega), up_eq]
    exact ⟨⟨Nat.le_refl _, List.prefix_refl _⟩, fun e q => Nat.le_of_eq (Oc_X q).symm⟩
  · by_cases y : v = N + 1
    · rw [y, up_eq, up_eq]
      obtain ⟨h1, h2⟩ := h t ht t0
      refine ⟨Oc_s.mpr (Or.inl (h1.pre t1)), fun e q => ?_⟩
      rcases Oc_s.mp q with q | q
      · exact h2 e (t2 e q)
      · have := h1.1; omega
    · rw [up_ne y, up_ne x, up_ne y, up_ne x]; exact h.old (by omega) v0
def CLN (w : Nat → Nat) (n N : Nat) (lab : Nat → List Nat) (cl : Nat → Bool) : Prop := ∀ v, v < N → ((v ≠ 0 ∧ cl v = false) ↔ ∃ e, 0 < e ∧ e ≤ n ∧ lab v = tx w e)
theorem CLN.old {v : Nat} (h : CLN w n N lab cl) (hS : SA w n N lab lk nx last) (hv : v < N) : (v ≠ 0 ∧ cl v = false) ↔ ∃ e, 0 < e ∧ e ≤ n + 1 ∧ lab v = tx w e := by
  rw [h v hv]
  constructor
  · rintro ⟨e, h1, h2, h3⟩; exact ⟨e, h1, by omega, h3⟩
  · rintro ⟨e, h1, h2, h3⟩
    have := Sb_len (hS.2.2.1 v hv).1
    rw [h3, tx_len] at this
    exact ⟨e, h1, this, h3⟩
theorem CLN.ex (h : CLN w n N lab cl) (hS : SA w n N lab lk nx last) : CLN w (n + 1) (N + 1) (up lab N (tx w (n + 1))) (up cl N false) := fun v hv => by
  have n0 := hS.1.1
  by_cases x : v = N
  · rw [x, up_eq, up_eq]
    exact ⟨fun _ => ⟨n + 1, by omega, Nat.le_refl _, rfl⟩, fun _ => ⟨by omega, rfl⟩⟩
  · rw [up_ne x, up_ne x]; exact h.old hS (by omega)
theorem CLN.cx (h : CLN w n N lab cl) (hS : SA w n N lab lk nx last) (hZ : ZP w n Z) (ht : t < N) (t1 : Z <+: lab t) (t2 : OLE w n Z (lab t)) (tn : lab t ≠ Z) : CLN w (n + 1) (N + 2) (up (up lab N (tx w (n + 1))) (N + 1) Z) (up (up cl N false) (N + 1) true) := fun v hv => by
  have n0 := hS.1.1
  by_cases x : v = N
  · rw [x, up_ne (by omega), up_eq, up_ne (by omega), up_eq]
    exact ⟨fun _ => ⟨n + 1, by omega, Nat.le_refl _, rfl⟩, fun _ => ⟨by omega, rfl⟩⟩
  · by_cases y : v = N + 1
    · rw [y, up_eq, up_eq]
      refine ⟨fun q => (by cases q.2), fun ⟨e, e0, e1, e2⟩ => ?_⟩
      exfalso
      have l := Sb_len hZ.2.1
      rw [e2, tx_len] at l
      have := (t2 e ⟨l, by rw [e2]; exact List.prefix_refl _⟩).2
      rw [← e2] at this
      exact tn (pre_anti this t1)
    · rw [up_ne y, up_ne x, up_ne y, up_ne x]; exact h.old hS (by omega)
def sN (f : Nat → Nat) : Nat → Nat
  | 0 => 0
  | k + 1 => sN f k + f k
theorem sN_0 {f : Nat → Nat} : ∀ k, (∀ i, i < k → f i = 0) → sN f k = 0 := by
  intro k
  induction k with
  | zero => intro _; rfl
  | succ k ih => intro h; rw [sN, ih (fun i hi => h i (by omega)), h k (by omega)]
theorem sN_ext {f g : Nat → Nat} : ∀ k, (∀ i, i < k → f i = g i) → sN f k = sN g k := by
  intro k
  induction k with
  | zero => intro _; rfl
  | succ k ih => intro h; rw [sN, sN, ih (fun i hi => h i (by omega)), h k (by omega)]
theorem sN_add (f g : Nat → Nat) : ∀ k, sN (fun i => f i + g i) k = sN f k + sN g k := by
  intro k
  induction k with
  | zero => rfl
  | succ k ih => rw [sN, sN, sN, ih]; omega
theorem sN_one {f g : Nat → Nat} {a d : Nat} : ∀ k, a < k → (∀ i, i < k → i ≠ a → f i = g i) → f a = g a + d → sN f k = sN g k + d := by
  intro k
  induction k with
  | zero => intro h; omega
  | succ k ih =>
    intro h h1 h2
    rw [sN, sN]
    by_cases e : a = k
    · subst e
      rw [sN_ext a (fun i hi => h1 i (by omega) (by omega)), h2]
      omega
    · rw [ih (by omega) (fun i hi hne => h1 i (by omega) hne) h2, h1 k (by omega) (fun q => e q.symm)]
      omega
/-- the ends of v among the first k -/
def Cn (w : Nat → Nat) (lab : Nat → List Nat) (k v : Nat) : Nat := cB (fun e => decide (lab v <+: tx w (e + 1))) k
def Ow (w : Nat → Nat) (lab : Nat → List Nat) (k v : Nat) : Nat := cB (fun e => decide (lab v = tx w (e + 1))) k
/-- a state above v on the way to e -/
theorem dwn (h : SA w n N lab lk nx last) {v e : Nat} (hv : v < N) : ∀ (k u : Nat), (lab u).length ≤ k → u < N → lab u <+: tx w e → (lab v).length < (lab u).length → lab v <+: tx w e → ∃ x, x < N ∧ lk x = v + 1 ∧ lab x <+: tx w e := by
  intro k
  induction k with
  | zero => intro u l _ _ l'; omega
  | succ k ih =>
    intro u l hu pu lu pv
    have u0 : u ≠ 0 := fun q => by rw [q, h.1.2.1, List.length_nil] at lu; omega
    obtain ⟨x, hx, k1, k2, k3, k4⟩ := h.2.2.2.2.1 u hu u0
    rcases Nat.lt_or_ge (lab v).length (lab x).length with q | q
    · exact ih x (by omega) hx (k2.trans pu) q pv
    · have vu : lab v <+: lab u := cmp pv pu (by omega)
      rcases Nat.lt_or_ge (lab x).length (lab v).length with r | r
      · exfalso
        have := (h.2.2.1 v hv).2 (lab u) vu (k4 (lab v) vu r)
        rw [this] at lu
        omega
      · have : x = v := h.2.1 x v hx hv (pre_eq (cmp k2 vu (by omega)) (by omega))
        rw [this] at k1
        exact ⟨u, hu, k1, pu⟩
theorem txst (h : SA w n N lab lk nx last) {e : Nat} (he : e ≤ n) : ∃ x, x < N ∧ lab x = tx w e := by
  obtain ⟨x, hx, h1, h2⟩ := h.2.2.2.1 (tx w e) ⟨e, he, List.prefix_refl _⟩
  exact ⟨x, hx, pre_anti (h2 e ⟨he, List.prefix_refl _⟩).2 h1⟩
theorem key (h : SA w n N lab lk nx last) {v e : Nat} (hv : v < N) (he : e ≤ n) : (if lab v <+: tx w e then 1 else 0) = (if lab v = tx w e then 1 else 0) + sN (fun u => if lk u = v + 1 ∧ lab u <+: tx w e then 1 else 0) N := by
  have ch : ∀ u, u < N → lk u = v + 1 → lab v <+: lab u ∧ (lab v).length < (lab u).length ∧ ∀ y, y <+: lab u → (lab v).length < y.length → OLE w n y (lab u) := fun u hu e => by
    have u0 : u ≠ 0 := fun q => by rw [q, h.1.2.2] at e; omega
    obtain ⟨x, hx, k1, k2, k3, k4⟩ := h.2.2.2.2.1 u hu u0
    have : x = v := by omega
    rw [this] at k2 k3 k4
    exact ⟨k2, k3, k4⟩
  by_cases p : lab v <+: tx w e
  · rw [if_pos p]
    by_cases q : lab v = tx w e
    · rw [if_pos q, sN_0 N (fun u hu => if_neg (fun k => ?_))]
      have a := ch u hu k.1
      have b := pre_len k.2
      rw [q] at a
      omega
    · rw [if_neg q]
      obtain ⟨x, hx, ex⟩ := txst h he
      have lx : (lab v).length < (lab x).length := by
        rw [ex]
        rcases Nat.lt_or_ge (lab v).length (tx w e).length with r | r
        · exact r
        · exact absurd (pre_eq p (Nat.le_antisymm (pre_len p) r)) q
      obtain ⟨u, hu, k1, k2⟩ := dwn h hv _ x (Nat.le_refl _) hx (by rw [ex]; exact List.prefix_refl _) lx p
      have one : sN (fun u => if lk u = v + 1 ∧ lab u <+: tx w e then 1 else 0) N = sN (fun _ => 0) N + 1 := sN_one N hu (fun i hi hne => if_neg (fun k => hne ?_)) (by show (if lk u = v + 1 ∧ lab u <+: tx w e then 1 else 0) = 0 + 1; rw [if_pos ⟨k1, k2⟩])
      · rw [one, sN_0 N (fun _ _ => rfl)]
      · -- two children on the same way are one
        have a := ch u hu k1
        have b := ch i hi k.1
        refine h.2.1 i u hi hu ?_
        rcases Nat.le_total (lab i).length (lab u).length with r | r
        · have iu := cmp k.2 k2 r
          exact ((h.2.2.1 i hi).2 (lab u) iu (a.2.2 (lab i) iu b.2.1)).symm
        · have ui := cmp k2 k.2 r
          exact (h.2.2.1 u hu).2 (lab i) ui (b.2.2 (lab u) ui a.2.1)
  · rw [if_neg p, if_neg (fun q => p (by rw [q]; exact List.prefix_refl _)), sN_0 N (fun u hu => if_neg (fun k => p ((ch u hu k.1).1.trans k.2)))]
theorem Cn_s (h : SA w n N lab lk nx last) {v : Nat} (hv : v < N) : ∀ k, k ≤ n → Cn w lab k v = Ow w lab k v + sN (fun u => if lk u = v + 1 then Cn w lab k u else 0) N := by
  intro k
  induction k with
  | zero =>
    intro _
    show 0 = 0 + _
    rw [sN_0 N (fun u hu => by show (if lk u = v + 1 then Cn w lab 0 u else 0) = 0; split <;> rfl)]
  | succ k ih =>
    intro hk
    have a := ih (by omega)
    have b := key h hv (e := k + 1) hk
    have e : sN (fun u => if lk u = v + 1 then Cn w lab (k + 1) u else 0) N = sN (fun u => if lk u = v + 1 then Cn w lab k u else 0) N + sN (fun u => if lk u = v + 1 ∧ lab u <+: tx w (k + 1) then 1 else 0) N := by
      rw [← sN_add]
      refine sN_ext N (fun u hu => ?_)
      by_cases q : lk u = v + 1
      · rw [if_pos q, if_pos q]
        by_cases r : lab u <+: tx w (k + 1)
        · rw [if_pos ⟨q, r⟩]; unfold Cn; rw [cB, if_pos (decide_eq_true r)]
        · rw [if_neg (fun x => r x.2)]; unfold Cn; rw [cB, if_neg (fun x => r (of_decide_eq_true x))]
      · rw [if_neg q, if_neg q, if_neg (fun x => q x.1)]
    have e1 : Cn w lab (k + 1) v = Cn w lab k v + (if lab v <+: tx w (k + 1) then 1 else 0) := by
      unfold Cn
      rw [cB]
      by_cases r : lab v <+: tx w (k + 1)
      · rw [if_pos (decide_eq_true r), if_pos r]
      · rw [if_neg (fun x => r (of_decide_eq_true x)), if_neg r]
    have e2 : Ow w lab (k + 1) v = Ow w lab k v + (if lab v = tx w (k + 1) then 1 else 0) := by
      unfold Ow
      rw [cB]
      by_cases r : lab v = tx w (k + 1)
      · rw [if_pos (decide_eq_true r), if_pos r]
      · rw [if_neg (fun x => r (of_decide_eq_true x)), if_neg r]
    rw [e, e1, e2, a, b]
    omega
open Classical in
theorem Ow_c (h : SA w n N lab lk nx last) (hC : CLN w n N lab cl) {v : Nat} (hv : v < N) : Ow w lab n v = if v ≠ 0 ∧ cl v = false then 1 else 0 := by
  have gen : ∀ k, Ow w lab k v = if ∃ e, 0 < e ∧ e ≤ k ∧ lab v = tx w e then 1 else 0 := by
    intro k
    induction k with
    | zero => rw [if_neg (fun ⟨e, a, b, _⟩ => by omega)]; rfl
    | succ k ih =>
      unfold Ow at ih ⊢
      rw [cB, ih]
      by_cases r : lab v = tx w (k + 1)
      · have no : ¬ ∃ e, 0 < e ∧ e ≤ k ∧ lab v = tx w e := fun ⟨e, a, b, d⟩ => by
          rw [r] at d
          have := congrArg List.length d
          rw [tx_len, tx_len] at this
          omega
        have yes : ∃ e, 0 < e ∧ e ≤ k + 1 ∧ lab v = tx w e := ⟨k + 1, by omega, Nat.le_refl _, r⟩
        rw [if_pos (decide_eq_true r), if_neg no, if_pos yes]
      · rw [if_neg (fun x => r (of_decide_eq_true x)), Nat.add_zero]
        by_cases q : ∃ e, 0 < e ∧ e ≤ k ∧ lab v = tx w e
        · obtain ⟨e, a, b, d⟩ := q
          rw [if_pos ⟨e, a, b, d⟩, if_pos ⟨e, a, by omega, d⟩]
        · rw [if_neg q, if_neg (fun ⟨e, a, b, d⟩ => q ⟨e, a, by
            by_cases z : e = k + 1
            · rw [z] at d; exact absurd d r
            · omega, d⟩)]
  rw [gen n]
  by_cases q : v ≠ 0 ∧ cl v = false
  · rw [if_pos q, if_pos ((hC v hv).mp q)]
  · rw [if_neg q, if_neg (fun x => q ((hC v hv).mpr x))]
end Fe
/-! counting sort and the sums along the links -/
section So
variable {N : Nat} {ln lk : Nat → Nat} {own C : Nat → Nat}
def pos (N : Nat) (ln : Nat → Nat) (v : Nat) : Nat := cB (fun u => decide (ln u < ln v)) N + cB (fun u => decide (ln u = ln v)) v
theorem cB_re {p : Nat → Bool} {v : Nat} : ∀ N, v ≤ N → cB (fun u => p u && decide (u < v)) N = cB p v := by
  intro N
  induction N with
  | zero => intro h; rw [show v = 0 by omega]; rfl
  | succ N ih =>
    intro h
    by_cases e : v = N + 1
    · rw [e]
      exact cB_ext (N + 1) (fun i hi => by simp [hi])
    · rw [cB, ih (by omega), if_neg (by simp; intro _; omega), Nat.add_zero]
theorem pos_lt {v : Nat} (hv : v < N) : pos N ln v < N := by
  unfold pos
  rw [← cB_re (p := fun u => decide (ln u = ln v)) N (by omega)]
  have a : cB (fun u => decide (ln u < ln v)) N + cB (fun u => decide (ln u = ln v) && decide (u < v)) N ≤ cB (fun u => decide (u ≠ v)) N := cB_dis N (fun i hi h => by
      simp only [decide_eq_true_eq] at h ⊢
      intro e; rw [e] at h; omega) (fun i hi h => by
      simp only [Bool.and_eq_true, decide_eq_true_eq] at h ⊢
      omega) (fun i hi h h' => by
      simp only [Bool.and_eq_true, decide_eq_true_eq] at h h'
      omega)
  have b : cB (fun u => decide (u ≠ v)) N < cB (fun _ => true) N := cB_lt hv (fun _ _ _ => rfl) (by simp) rfl
  have := cB_le (fun _ => true) N
  omega
theorem pos_mono {u v : Nat} (hu : u < N) (h : ln u < ln v) : pos N ln u < pos N ln v := by
  have a : pos N ln u < cB (fun x => decide (ln x < ln v)) N := by
    unfold pos
    rw [← cB_re (p := fun x => decide (ln x = ln u)) N (by omega)]
    have a : cB (fun x => decide (ln x < ln u)) N + cB (fun x => decide (ln x = ln u) && decide (x < u)) N ≤ cB (fun x => decide (ln x < ln v) && decide (x ≠ u)) N := cB_dis N (fun i hi q => by
        simp only [Bool.and_eq_true, decide_eq_true_eq] at q ⊢
        exact ⟨by omega, fun e => by rw [e] at q; omega⟩) (fun i hi q => by
        simp only [Bool.and_eq_true, decide_eq_true_eq] at q ⊢
        exact ⟨by omega, by omega⟩) (fun i hi q q' => by
        simp only [Bool.and_eq_true, decide_eq_true_eq] at q q'
        omega)
    have b : cB (fun x => decide (ln x < ln v) && decide (x ≠ u)) N < cB (fun x => decide (ln x < ln v)) N := cB_lt hu (fun i _ q => by
        simp only [Bool.and_eq_true, decide_eq_true_eq] at q ⊢
        exact q.1) (by simp) (by simp [h])
    omega
  unfold pos at a ⊢
  omega
theorem pos_inj {u v : Nat} (hu : u < N) (hv : v < N) (e : pos N ln u = pos N ln v) : u = v := by
  have el : ln u = ln v := by
    rcases Nat.lt_trichotomy (ln u) (ln v) with h | h | h
    · have := pos_mono (N := N) hu h; omega
    · exact h
    · have := pos_mono (N := N) hv h; omega
  have key : ∀ {a b : Nat}, a < b → ln a = ln b → cB (fun x => decide (ln x = ln a)) a < cB (fun x => decide (ln x = ln b)) b := fun {a b} h e => by
    have m : cB (fun x => decide (ln x = ln a)) (a + 1) ≤ cB (fun x => decide (ln x = ln a)) b := by
      have : ∀ k, a + 1 ≤ k → cB (fun x => decide (ln x = ln a)) (a + 1) ≤ cB (fun x => decide (ln x = ln a)) k := by
        intro k
        induction k with
        | zero => intro h; omega
        | succ k ih =>
          intro h
          by_cases e : a + 1 = k + 1
          · rw [e]; exact Nat.le_refl _
          · have := ih (by omega)
            show _ ≤ cB (fun x => decide (ln x = ln a)) k + _
            omega
      exact this b h
    rw [cB, if_pos (by simp)] at m
    rw [← e]
    omega
  unfold pos at e
  rw [el] at e
  rcases Nat.lt_trichotomy u v with h | h | h
  · have := key h el; rw [el] at this; omega
  · exact h
  · have := key h el.symm; rw [el] at this; omega
theorem pos_0 (h0 : ln 0 = 0) : pos N ln 0 = 0 := by
  unfold pos
  rw [h0]
  have : cB (fun u => decide (ln u < 0)) N = cB (fun _ => false) N := cB_ext N (fun i _ => by simp)
  rw [this]
  have z : ∀ k, cB (fun _ => false) k = 0 := fun k => by
    induction k with
    | zero => rfl
    | succ k ih => rw [cB, ih]; rfl
  rw [z]
  rfl
/-- the sums: those placed behind i are handed on -/
def AC (N : Nat) (ln lk own C : Nat → Nat) (i : Nat) (cn : Nat → Nat) : Prop := ∀ v, v < N → cn v = own v + sN (fun u => if lk u = v + 1 ∧ i < pos N ln u then C u else 0) N
/-- the counts' law -/
def CL (N : Nat) (lk own C : Nat → Nat) : Prop := ∀ v, v < N → C v = own v + sN (fun u => if lk u = v + 1 then C u else 0) N
theorem AC_0 {cn : Nat → Nat} (h : ∀ v, v < N → cn v = own v) : AC N ln lk own C (N - 1) cn := fun v hv => by
  rw [h v hv, sN_0 N (fun u hu => if_neg (fun k => by have := pos_lt (ln := ln) hu; omega))]
  rfl
theorem AC.v {cn : Nat → Nat} {i v : Nat} (h : AC N ln lk own C i cn) (hC : CL N lk own C) (hl : ∀ u v, u < N → v < N → lk u = v + 1 → ln v < ln u) (hv : v < N) (hi : i ≤ pos N ln v) : cn v = C v := by
  rw [h v hv, hC v hv]
  congr 1
  refine sN_ext N (fun u hu => ?_)
  by_cases q : lk u = v + 1
  · have := pos_mono (N := N) hv (hl u v hu hv q)
    rw [if_pos q, if_pos ⟨q, by omega⟩]
  · rw [if_neg q, if_neg (fun k => q k.1)]
theorem AC.s {cn : Nat → Nat} {i v p : Nat} (h : AC N ln lk own C i cn) (hC : CL N lk own C) (hl : ∀ u v, u < N → v < N → lk u = v + 1 → ln v < ln u) (hv : v < N) (hi : pos N ln v = i) (i0 : 0 < i) (hp : lk v = p + 1) (pN : p < N) : AC N ln lk own C (i - 1) (up cn p (cn p + cn v)) := fun x hx => by
  have ev : cn v = C v := h.v hC hl hv (by omega)
  have oth : ∀ u, u < N → u ≠ v → ((lk u = x + 1 ∧ i - 1 < pos N ln u) ↔ (lk u = x + 1 ∧ i < pos N ln u)) := fun u hu hne => by
    have : pos N ln u ≠ i := fun e => hne (pos_inj hu hv (by rw [e, hi]))
    constructor
    · rintro ⟨a, b⟩; exact ⟨a, by omega⟩
    · rintro ⟨a, b⟩; exact ⟨a, by omega⟩
  by_cases e : x = p
  · rw [e, up_eq, h p pN, ev, Nat.add_assoc]
    congr 1
    refine (sN_one N hv (fun u hu hne => ?_) ?_).symm
    · show (if lk u = p + 1 ∧ i - 1 < pos N ln u then C u else 0) = if lk u = p + 1 ∧ i < pos N ln u then C u else 0
      rw [e] at oth
      by_cases q : lk u = p + 1 ∧ i < pos N ln u
      · rw [if_pos q, if_pos ((oth u hu hne).mpr q)]
      · rw [if_neg q, if_neg (fun k => q ((oth u hu hne).mp k))]
    · show (if lk v = p + 1 ∧ i - 1 < pos N ln v then C v else 0) = (if lk v = p + 1 ∧ i < pos N ln v then C v else 0) + C v
      rw [if_pos ⟨hp, by omega⟩, if_neg (fun k => by omega), Nat.zero_add]
  · rw [up_ne e, h x hx]
    congr 1
    refine sN_ext N (fun u hu => ?_)
    by_cases z : u = v
    · rw [if_neg (fun k => by rw [z, hp] at k; omega), if_neg (fun k => by rw [z, hp] at k; omega)]
    · by_cases q : lk u = x + 1 ∧ i < pos N ln u
      · rw [if_pos q, if_pos ((oth u hu z).mpr q)]
      · rw [if_neg q, if_neg (fun k => q ((oth u hu z).mp k))]
end So
theorem nI_4 (v : Nat) : nI v * 4 = nI (v * 4) := (Int32.ofNat_mul v 4).symm
theorem nI_mul (a c : Nat) : nI a * nI c = nI (a * c) := (Int32.ofNat_mul a c).symm
theorem nI_div {a c : Nat} (ha : a < 2147483648) (hc : c < 2147483648) : nI a / nI c = nI (a / c) := by
  have hq : a / c ≤ a := Nat.div_le_self a c
  apply Int32.toInt_inj.mp
  rw [Int32.toInt_div, nI_int ha, nI_int hc, nI_int (by omega), ← Int.ofNat_tdiv]
  generalize a / c = q at *
  exact Int.bmod_eq_of_le (by omega) (by omega)
theorem nI_mod {a c : Nat} (ha : a < 2147483648) (hc : c < 2147483648) : nI a % nI c = nI (a % c) := by
  have hq : a % c ≤ a := Nat.mod_le a c
  apply Int32.toInt_inj.mp
  rw [Int32.toInt_mod, nI_int ha, nI_int hc, nI_int (by omega), Int.tmod_eq_emod_of_nonneg (by omega)]
  rfl
theorem n0T {a : Nat} (h : 0 < a) (ha : a < 2147483648) : (nI a = 0) = False := eq_false (nI_ne (c := 0) ha (by decide) (by omega))
theorem nnF {a : Nat} (ha : a < 2147483648) : (nI a < 0) = False := eq_false (nI_nn ha)
theorem eT {a c : Nat} (h : a = c) : (nI a = nI c) = True := eq_true (congrArg nI h)
theorem eF {a c : Nat} (h : a ≠ c) (ha : a < 2147483648) (hc : c < 2147483648) : (nI a = nI c) = False := eq_false (nI_ne ha hc h)
def CM {α : Type} (F : α → Int32) (l : List Int32) (h : Nat → α) (k : Nat) : Prop := ∀ i, i < k → getA l (nI i) = F (h i)
def fB (b : Bool) : Int32 := if b = true then 1 else 0
def fH (n : Nat) : Int32 := nI n - 1
def mix {α : Type} (i : Nat) (a o : Nat → α) : Nat → α := fun j => if j < i then a j else o j
section Cm
variable {α : Type} {F : α → Int32} {l : List Int32} {h a o : Nat → α} {k j i : Nat} {w : α} {v : Int32}
theorem CM_set (H : CM F l h k) (e : v = F w) (hj : j < l.length) (hl : l.length ≤ 100000) (hk : k ≤ 100000) : CM F (setA l (nI j) v) (up h j w) k := by
  intro i hi
  rw [cf_setB hj hl (by omega), up_a]
  split
  · exact e
  · exact H i hi
theorem CM_push (H : CM F l h k) (e : v = F w) (hk : k < l.length) (hl : l.length ≤ 100000) : CM F (setA l (nI k) v) (up h k w) (k + 1) := by
  intro i hi
  rw [cf_setB hk hl (by omega), up_a]
  split
  · exact e
  · exact H i (by omega)
theorem CM_step (H : CM F l h k) (e : v = F (h k)) (hk : k < l.length) (hl : l.length ≤ 100000) : CM F (setA l (nI k) v) h (k + 1) := by
  intro i hi
  rw [cf_setB hk hl (by omega)]
  split
  · rename_i q; rw [e, q]
  · exact H i (by omega)
theorem CM_ext {g : Nat → α} (H : CM F l h k) (e : ∀ i, i < k → h i = g i) : CM F l g k := fun i hi => by rw [H i hi, e i hi]
theorem CM_le (H : CM F l h k) (e : j ≤ k) : CM F l h j := fun i hi => H i (by omega)
theorem CM_mixS (H : CM F l (mix i a o) k) (e : v = F (a i)) (hi : i < l.length) (hl : l.length ≤ 100000) (hk : k ≤ 100000) : CM F (setA l (nI i) v) (mix (i + 1) a o) k := by
  intro q hq
  rw [cf_setB hi hl (by omega)]
  unfold mix
  by_cases z : q = i
  · rw [if_pos z, if_pos (by omega), z]; exact e
  · have := H q hq
    unfold mix at this
    rw [if_neg z, this]
    by_cases y : q < i
    · rw [if_pos y, if_pos (by omega)]
    · rw [if_neg y, if_neg (by omega)]
theorem CM_mixN (H : CM F l (mix i a o) k) (e : a i = o i) : CM F l (mix (i + 1) a o) k := by
  refine CM_ext H (fun q hq => ?_)
  unfold mix
  by_cases z : q = i
  · rw [if_neg (by omega), if_pos (by omega), z, e]
  · by_cases y : q < i
    · rw [if_pos y, if_pos (by omega)]
    · rw [if_neg y, if_neg (by omega)]
theorem CM_mix0 (H : CM F l o k) : CM F l (mix 0 a o) k := H
theorem CM_mixE (H : CM F l (mix k a o) k) : CM F l a k := CM_ext H (fun q hq => if_pos hq)
theorem mix_g {q : Nat} : mix i a o q = if q < i then a q else o q := rfl
end Cm
theorem ou_ne {A : Nat → List Int32} {j k : Nat} {l : List Int32} (h : k ≠ j) : ou A j l k = A k := by rw [ou_a, if_neg h]
theorem ou_eq {A : Nat → List Int32} {j : Nat} {l : List Int32} : ou A j l j = l := by rw [ou_a, if_pos rfl]
theorem os_ne {s : Nat → Int32} {j k : Nat} {v : Int32} (h : k ≠ j) : ou s j v k = s k := by rw [ou_a, if_neg h]
theorem os_eq {s : Nat → Int32} {j : Nat} {v : Int32} : ou s j v j = v := by rw [ou_a, if_pos rfl]
theorem nI_8 (v : Nat) : nI v * 8 = nI (v * 8) := (Int32.ofNat_mul v 8).symm
theorem fH_z : fH 0 = -1 := by decide
theorem fH_s (v : Nat) : fH (v + 1) = nI v := nI_sub (a := v + 1) (c := 1) (by omega)
theorem fH_n : (fH 0 < 0) = True := eq_true (by decide)
theorem fH_p {v : Nat} (h : v < 100000) : (fH (v + 1) < 0) = False := by rw [fH_s]; exact nnF (by omega)
theorem fH_i {a c : Nat} (ha : a < 100000) (hc : c < 100000) (h : fH a = fH c) : a = c := by
  have e : nI a = nI c := by
    have := congrArg (· + 1) h
    simpa [fH, Int32.sub_add_cancel] using this
  exact (nI_inj (by omega) (by omega)).mp e
theorem fB_0 {x : Bool} (h : x = false) : (fB x = 0) = True := by rw [h]; exact eq_true rfl
theorem fB_1 {x : Bool} (h : x = true) : (fB x = 0) = False := by rw [h]; exact eq_false (by decide)
theorem Oc_e {w w' : Nat → Nat} {n : Nat} (h : ∀ i, i < n → w i = w' i) : Oc w n = Oc w' n := by
  funext x e
  apply propext
  unfold Oc
  constructor
  · rintro ⟨a, b⟩; exact ⟨a, by rw [← tx_ext e (fun i hi => h i (by omega))]; exact b⟩
  · rintro ⟨a, b⟩; exact ⟨a, by rw [tx_ext e (fun i hi => h i (by omega))]; exact b⟩
theorem SA_e {w w' : Nat → Nat} {n N last : Nat} {lab : Nat → List Nat} {lk nx : Nat → Nat} (h : ∀ i, i < n → w i = w' i) (hS : SA w n N lab lk nx last) : SA w' n N lab lk nx last := by
  unfold SA Sb OLE at *
  rw [← Oc_e h, ← tx_ext n h]
  exact hS
theorem FE_e {w w' : Nat → Nat} {n N : Nat} {lab : Nat → List Nat} {fe : Nat → Nat} (h : ∀ i, i < n → w i = w' i) (hS : FE w n N lab fe) : FE w' n N lab fe := by
  unfold FE at *
  rw [← Oc_e h]
  exact hS
theorem CLN_e {w w' : Nat → Nat} {n N : Nat} {lab : Nat → List Nat} {cl : Nat → Bool} (h : ∀ i, i < n → w i = w' i) (hS : CLN w n N lab cl) : CLN w' n N lab cl := fun v hv => by
  rw [hS v hv]
  constructor
  · rintro ⟨e, a, b, c⟩; exact ⟨e, a, b, by rw [c]; exact tx_ext e (fun i hi => h i (by omega))⟩
  · rintro ⟨e, a, b, c⟩; exact ⟨e, a, b, by rw [c]; exact (tx_ext e (fun i hi => h i (by omega))).symm⟩
def conjD := ()
def TB (N : Nat) (ln lk nx fe : Nat → Nat) (cl : Nat → Bool) (A : Nat → List Int32) : Prop := (LN A) ∧ (CM fH (A 3) nx (N * 8)) ∧ (CM fH (A 4) lk N) ∧ (CM nI (A 5) ln N) ∧ (CM nI (A 6) fe N) ∧ (CM fB (A 7) cl N) ∧ (N ≤ 128)
theorem TB.ln {N : Nat} {ln lk nx fe : Nat → Nat} {cl : Nat → Bool} {A : Nat → List Int32} (h : TB N ln lk nx fe cl A) : LN A := h.1
theorem TB.a3 {N : Nat} {ln lk nx fe : Nat → Nat} {cl : Nat → Bool} {A : Nat → List Int32} (h : TB N ln lk nx fe cl A) : CM fH (A 3) nx (N * 8) := h.2.1
theorem TB.a4 {N : Nat} {ln lk nx fe : Nat → Nat} {cl : Nat → Bool} {A : Nat → List Int32} (h : TB N ln lk nx fe cl A) : CM fH (A 4) lk N := h.2.2.1
theorem TB.a5 {N : Nat} {ln lk nx fe : Nat → Nat} {cl : Nat → Bool} {A : Nat → List Int32} (h : TB N ln lk nx fe cl A) : CM nI (A 5) ln N := h.2.2.2.1
theorem TB.a6 {N : Nat} {ln lk nx fe : Nat → Nat} {cl : Nat → Bool} {A : Nat → List Int32} (h : TB N ln lk nx fe cl A) : CM nI (A 6) fe N := h.2.2.2.2.1
theorem TB.a7 {N : Nat} {ln lk nx fe : Nat → Nat} {cl : Nat → Bool} {A : Nat → List Int32} (h : TB N ln lk nx fe cl A) : CM fB (A 7) cl N := h.2.2.2.2.2.1
theorem TB.nb {N : Nat} {ln lk nx fe : Nat → Nat} {cl : Nat → Bool} {A : Nat → List Int32} (h : TB N ln lk nx fe cl A) : N ≤ 128 := h.2.2.2.2.2.2
def ZT (N : Nat) (ln lk nx fe : Nat → Nat) (cl : Nat → Bool) : Prop := (∀ i, N * 8 ≤ i → nx i = 0) ∧ (∀ i, N ≤ i → lk i = 0) ∧ (∀ i, N ≤ i → ln i = 0) ∧ (∀ i, N ≤ i → fe i = 0) ∧ (∀ i, N ≤ i → cl i = false)
theorem ZT.z3 {N : Nat} {ln lk nx fe : Nat → Nat} {cl : Nat → Bool} (h : ZT N ln lk nx fe cl) : ∀ i, N * 8 ≤ i → nx i = 0 := h.1
theorem ZT.z4 {N : Nat} {ln lk nx fe : Nat → Nat} {cl : Nat → Bool} (h : ZT N ln lk nx fe cl) : ∀ i, N ≤ i → lk i = 0 := h.2.1
theorem ZT.z5 {N : Nat} {ln lk nx fe : Nat → Nat} {cl : Nat → Bool} (h : ZT N ln lk nx fe cl) : ∀ i, N ≤ i → ln i = 0 := h.2.2.1
theorem ZT.z6 {N : Nat} {ln lk nx fe : Nat → Nat} {cl : Nat → Bool} (h : ZT N ln lk nx fe cl) : ∀ i, N ≤ i → fe i = 0 := h.2.2.2.1
theorem ZT.z7 {N : Nat} {ln lk nx fe : Nat → Nat} {cl : Nat → Bool} (h : ZT N ln lk nx fe cl) : ∀ i, N ≤ i → cl i = false := h.2.2.2.2
def FT (A A' : Nat → List Int32) : Prop := ∀ k, k < 3 ∨ 8 < k → A' k = A k
theorem FT_r (A : Nat → List Int32) : FT A A := fun _ _ => rfl
theorem FT_t {A A' A'' : Nat → List Int32} (h : FT A A') (h' : FT A' A'') : FT A A'' := fun k a => (h' k a).trans (h k a)
theorem FT_o {A : Nat → List Int32} {j : Nat} {l : List Int32} (h : 3 ≤ j) (h' : j ≤ 8) : FT A (ou A j l) := fun k a => by rw [ou_a, if_neg (by omega)]
section Tab
variable {b : Nat} {pre post : AHeap} {Q : Option Value → AHeap → Prop} {s : Nat → Int32} {A A' : Nat → List Int32} {n N c t last : Nat} {ln lk nx nx1 fe w : Nat → Nat} {cl : Nat → Bool} {lab : Nat → List Nat}
theorem TB.ar (h : TB N ln lk nx fe cl A) (hl : LN A') (e : ∀ k, 3 ≤ k → k ≤ 7 → A' k = A k) : TB N ln lk nx fe cl A' := ⟨hl, by rw [e 3 (by decide) (by decide)]; exact h.a3, by rw [e 4 (by decide) (by decide)]; exact h.a4, by rw [e 5 (by decide) (by decide)]; exact h.a5, by rw [e 6 (by decide) (by decide)]; exact h.a6, by rw [e 7 (by decide) (by decide)]; exact h.a7, h.nb⟩
set_option maxRecDepth 1000000 in
set_option maxHeartbeats 20000000 in
theorem csL (hN : N < 128) (hz : ∀ i, N * 8 ≤ i → nx i = 0) : ∀ (r d : Nat) (A : Nat → List Int32), d + r = 8 → LN A → CM fH (A 3) nx (N * 8 + d) →
    (∀ A', LN A' → (∀ k, k ≠ 3 → A' k = A k) → CM fH (A' 3) nx (N * 8 + 8) → Q none (put (b + 1) pre s A' post)) → M2 54 [.val (.ref (b + 1)), .val (.int (nI N)), .val (.int (nI (N * 8))), .val (.int (nI d))] [] (put (b + 1) pre s A post) Q := by
  intro r
  induction r with
  | zero =>
    intro d A e hL h3 hq
    obtain rfl : d = 8 := by omega
    have c1 : (nI 8 < 8) = False := lF (c := 8) (by omega) (by omega)
    rw [m2_54]
    simp [c1, m2_0, m2_1, m2_4, m2_5, m2_8, m2_11, m2_12, m2_13, m2_16, m2_17, m2_18, m2_19, m2_20, m2_23, m2_24, m2_25, m2_26, m2_27, m2_30, m2_31, m2_32, m2_33, m2_34, m2_37, m2_38, m2_39, m2_40, m2_41, m2_44, m2_45, m2_46, m2_47, m2_48, m2_50, m2_51u, m2_52, m2_53u, m2_55, m2_57, m2_60, m2_61, m2_64, m2_65, m2_66, m2_67, m2_68, m2_69, m2_72, m2_75, nb0, nb1, ou_a, Option.toList_some, Option.toList_none, List.nil_append, List.cons_append]
    exact hq A hL (fun _ _ => rfl) h3
  | succ r ih =>
    intro d A e hL h3 hq
    have c1 : (nI d < 8) = True := lT (c := 8) (by omega) (by omega)
    have q3 := in3 hL (i := N * 8 + d) (by omega)
    have l3 := ln3 hL
    rw [m2_54]
    simp [c1, q3, nI_add, nI_1, m2_0, m2_1, m2_4, m2_5, m2_8, m2_11, m2_12, m2_13, m2_16, m2_17, m2_18, m2_19, m2_20, m2_23, m2_24, m2_25, m2_26, m2_27, m2_30, m2_31, m2_32, m2_33, m2_34, m2_37, m2_38, m2_39, m2_40, m2_41, m2_44, m2_45, m2_46, m2_47, m2_48, m2_50, m2_51u, m2_52, m2_53u, m2_55, m2_57, m2_60, m2_61, m2_64, m2_65, m2_66, m2_67, m2_68, m2_69, m2_72, m2_75, nb0, nb1, ou_a, Option.toList_some, Option.toList_none, List.nil_append, List.cons_append]
    refine ih (d + 1) _ (by omega) (LN_set hL) ?_ (fun A' k1 k2 k3 => hq A' k1 (fun k hk => by rw [k2 k hk, ou_ne hk]) k3)
    rw [ou_eq]
    exact CM_step h3 (by rw [hz _ (by omega)]; exact fH_z.symm) (by omega) (by omega)
theorem csW (h : TB N ln lk nx fe cl A) (z : ZT N ln lk nx fe cl) (hN : N < 128) (hq : ∀ A', TB (N + 1) ln lk nx fe cl A' → FT A A' → Q none (put (b + 1) pre s A' post)) : M2 0 [.val (.ref (b + 1)), .val (.int (nI N)), .unset, .unset] [] (put (b + 1) pre s A post) Q := by
  have hL := h.ln
  have c1 : (nI N < 0) = False := nnF (by omega)
  have c2 : (nI N < 128) = True := lT (c := 128) hN (by decide)
  have q4 := in4 hL (i := N) hN
  have q5 := in5 hL (i := N) hN
  have q6 := in6 hL (i := N) hN
  have q7 := in7 hL (i := N) hN
  have q8 := in8 hL (i := N) hN
  have l4 := ln4 hL
  have l5 := ln5 hL
  have l6 := ln6 hL
  have l7 := ln7 hL
  simp [c1, c2, q4, q5, q6, q7, q8, nI_8, m2_0, m2_1, m2_4, m2_5, m2_8, m2_11, m2_12, m2_13, m2_16, m2_17, m2_18, m2_19, m2_20, m2_23, m2_24, m2_25, m2_26, m2_27, m2_30, m2_31, m2_32, m2_33, m2_34, m2_37, m2_38, m2_39, m2_40, m2_41, m2_44, m2_45, m2_46, m2_47, m2_48, m2_50, m2_51u, m2_52, m2_53u, m2_55, m2_57, m2_60, m2_61, m2_64, m2_65, m2_66, m2_67, m2_68, m2_69, m2_72, m2_75, nb0, nb1, ou_a, Option.toList_some, Option.toList_none, List.nil_append, List.cons_append]
  refine csL hN z.z3 8 0 _ (by omega) ?_ ?_ (fun A' k1 k2 k3 => ?_)
  · (repeat refine LN_ou ?_ (by simp only [setA_len]; exact hL _)); exact hL
  · (repeat rw [ou_ne (by decide)]); exact h.a3
  · refine hq A' ⟨k1, by rw [Nat.add_mul]; exact k3, ?_, ?_, ?_, ?_, by omega⟩ (fun k hk => ?_)
    · rw [k2 4 (by decide)]; (repeat rw [ou_ne (by decide)]); rw [ou_eq]; exact CM_step h.a4 (by rw [z.z4 N (by omega)]; exact fH_z.symm) (by omega) (by omega)
    · rw [k2 5 (by decide)]; (repeat rw [ou_ne (by decide)]); rw [ou_eq]; exact CM_step h.a5 (by rw [z.z5 N (by omega)]; rfl) (by omega) (by omega)
    · rw [k2 6 (by decide)]; (repeat rw [ou_ne (by decide)]); rw [ou_eq]; exact CM_step h.a6 (by rw [z.z6 N (by omega)]; rfl) (by omega) (by omega)
    · rw [k2 7 (by decide)]; (repeat rw [ou_ne (by decide)]); rw [ou_eq]; exact CM_step h.a7 (by rw [z.z7 N (by omega)]; rfl) (by omega) (by omega)
    · rw [k2 k (by omega), ou_ne (by omega), ou_ne (by omega), ou_ne (by omega), ou_ne (by omega), ou_ne (by omega)]
set_option maxRecDepth 1000000 in
set_option maxHeartbeats 20000000 in
theorem aeL (hS : SA w n N lab lk nx last) (hc : c < 8) (hn : n ≤ 64) (hN : N ≤ 126) {st : Int32} : ∀ (r g pp : Nat) (nxc : Nat → Nat) (A : Nat → List Int32), g + r = 128 → TB (N + 1) ln lk nxc fe cl A → AI w n N lab nx nxc c pp → (pp ≠ 0 → g + (lab (pp - 1)).length ≤ n) → g ≤ n + 1 →
    (∀ pp' nx' A', TB (N + 1) ln lk nx' fe cl A' → AI w n N lab nx nx' c pp' → (pp' ≠ 0 → nx' ((pp' - 1) * 8 + c) ≠ 0) → (∀ k, k ≠ 3 → A' k = A k) → (∀ i, (N + 1) * 8 ≤ i → nx' i = nxc i) → Q (some (.int (fH pp'))) (put (b + 1) pre s A' post)) →
    M10 6 [.val (.ref (b + 1)), .val (.int (st)), .val (.int (nI c)), .val (.int (nI N)), .val (.int (fH pp)), .val (.int (nI g))] [] (put (b + 1) pre s A post) Q := by
  intro r
  induction r with
  | zero => intro g pp nxc A e _ _ _ h; omega
  | succ r ih =>
    intro g pp nxc A e hT hA hg hg2 hq
    have c1 : (nI g < 128) = True := lT (c := 128) (by omega) (by decide)
    rw [m10_6]
    cases pp with
    | zero =>
      simp [c1, fH_n, m10_0, m10_1u, m10_3, m10_4u, m10_8, m10_11, m10_14, m10_16, m10_19, m10_20, m10_23, m10_25, m10_27, m10_28, m10_29, m10_30, m10_31, m10_34, m10_35, m10_38, m10_40, m10_42, m10_43, m10_44, m10_45, m10_46, m10_47, m10_48, m10_51, m10_53, m10_54i, m10_56, m10_59, m10_62, m10_64, nb0, nb1, ou_a, Option.toList_some, Option.toList_none, List.nil_append, List.cons_append]
      exact hq 0 nxc A hT hA (fun h => absurd rfl h) (fun _ _ => rfl) (fun _ _ => rfl)
    | succ q =>
      have hq1 := (hA.2.2 (by omega)).1
      have hq1 : q < N := hq1
      have lg : g + (lab q).length ≤ n := hg (by omega)
      have c2 : (nI q < 0) = False := nnF (by omega)
      have q3 := in3 hT.ln (i := q * 8 + c) (by omega)
      have v3 := hT.a3 (q * 8 + c) (by omega)
      have l3 := ln3 hT.ln
      rw [fH_s]
      by_cases z : nxc (q * 8 + c) = 0
      · have z1 : (fH (nxc (q * 8 + c)) < 0) = True := by rw [z]; exact fH_n
        have q4 := in4 hT.ln (i := q) (by omega)
        have v4 := hT.a4 q (by omega)
        simp [c1, c2, q3, v3, z1, q4, v4, nI_add, nI_8, nI_1, m10_0, m10_1u, m10_3, m10_4u, m10_8, m10_11, m10_14, m10_16, m10_19, m10_20, m10_23, m10_25, m10_27, m10_28, m10_29, m10_30, m10_31, m10_34, m10_35, m10_38, m10_40, m10_42, m10_43, m10_44, m10_45, m10_46, m10_47, m10_48, m10_51, m10_53, m10_54i, m10_56, m10_59, m10_62, m10_64, nb0, nb1, ou_a, Option.toList_some, Option.toList_none, List.nil_append, List.cons_append]
        refine ih (g + 1) (lk q) _ _ (by omega) ⟨LN_set hT.ln, ?_, ?_, ?_, ?_, ?_, hT.nb⟩ (AI_s hS hA hc z) (fun h => ?_) (by omega) (fun pp' nx' A' k1 k2 k3 k4 k5 => hq pp' nx' A' k1 k2 k3 (fun k hk => by rw [k4 k hk, ou_ne hk]) (fun i hi => by rw [k5 i hi, up_ne (by omega)]))
        · rw [ou_eq]; exact CM_set hT.a3 (fH_s N).symm (by omega) (by omega) (by omega)
        · (repeat rw [ou_ne (by decide)]); exact hT.a4
        · (repeat rw [ou_ne (by decide)]); exact hT.a5
        · (repeat rw [ou_ne (by decide)]); exact hT.a6
        · (repeat rw [ou_ne (by decide)]); exact hT.a7
        · rcases AI.lk0 hS hq1 with y | ⟨u, hu, y1, y2, y3⟩
          · exact absurd y.1 h
          · rw [y1]; show g + 1 + (lab u).length ≤ n; omega
      · obtain ⟨x, hx⟩ : ∃ x, nxc (q * 8 + c) = x + 1 := ⟨nxc (q * 8 + c) - 1, by omega⟩
        have xb : x < 100000 := by
          by_cases k : c = c ∧ PS w n lab (q + 1) q
          · have := ((hA.1 q c hq1 hc).1 k).1; omega
          · have e1 := (hA.1 q c hq1 hc).2 k
            rcases hS.2.2.2.2.2.1 q c hq1 hc with y | ⟨u, hu, y, _⟩
            · omega
            · omega
        have z1 : (fH (nxc (q * 8 + c)) < 0) = False := by rw [hx]; exact fH_p xb
        simp [c1, c2, q3, v3, z1, nI_add, nI_8, m10_0, m10_1u, m10_3, m10_4u, m10_8, m10_11, m10_14, m10_16, m10_19, m10_20, m10_23, m10_25, m10_27, m10_28, m10_29, m10_30, m10_31, m10_34, m10_35, m10_38, m10_40, m10_42, m10_43, m10_44, m10_45, m10_46, m10_47, m10_48, m10_51, m10_53, m10_54i, m10_56, m10_59, m10_62, m10_64, nb0, nb1, ou_a, Option.toList_some, Option.toList_none, List.nil_append, List.cons_append]
        have := hq (q + 1) nxc A hT hA (fun _ => z) (fun _ _ => rfl) (fun _ _ => rfl)
        rw [fH_s] at this
        exact this
theorem aeW (hS : SA w n N lab lk nx last) (hc : c < 8) (hn : n ≤ 64) (hN : N ≤ 126) (hT : TB (N + 1) ln lk nx fe cl A) (hz : ∀ i, N * 8 ≤ i → nx i = 0)
    (hq : ∀ pp' nx' A', TB (N + 1) ln lk nx' fe cl A' → AI w n N lab nx nx' c pp' → (pp' ≠ 0 → nx' ((pp' - 1) * 8 + c) ≠ 0) → (∀ k, k ≠ 3 → A' k = A k) → (∀ i, (N + 1) * 8 ≤ i → nx' i = 0) → Q (some (.int (fH pp'))) (put (b + 1) pre s A' post)) :
    M10 0 [.val (.ref (b + 1)), .val (.int (nI last)), .val (.int (nI c)), .val (.int (nI N)), .unset, .unset] [] (put (b + 1) pre s A post) Q := by
  have l2 := hS.2.2.2.2.2.2
  simp [m10_0, m10_1u, m10_3, m10_4u, m10_8, m10_11, m10_14, m10_16, m10_19, m10_20, m10_23, m10_25, m10_27, m10_28, m10_29, m10_30, m10_31, m10_34, m10_35, m10_38, m10_40, m10_42, m10_43, m10_44, m10_45, m10_46, m10_47, m10_48, m10_51, m10_53, m10_54i, m10_56, m10_59, m10_62, m10_64, nb0, nb1, ou_a, Option.toList_some, Option.toList_none, List.nil_append, List.cons_append]
  have go := aeL (st := nI last) (Q := Q) (b := b) (pre := pre) (post := post) (s := s) hS hc hn hN 128 0 (last + 1) nx A (by omega) hT (AI_0 hS (fun a ha => hz _ (by omega)) (fun _ _ _ _ => rfl)) (fun _ => by show 0 + (lab last).length ≤ n; rw [l2.2, tx_len]; omega) (by omega) (fun pp' nx' A' k1 k2 k3 k4 k5 => hq pp' nx' A' k1 k2 k3 k4 (fun i hi => by rw [k5 i hi]; exact hz i (by omega)))
  rw [fH_s] at go
  exact go
set_option maxRecDepth 1000000 in
set_option maxHeartbeats 20000000 in
theorem spC {K f : Nat} (hK : K < 128) (ht : t < K) : ∀ (r d : Nat) (nxc : Nat → Nat) (l9 : Slot) (A : Nat → List Int32), d + r = 8 → LN A → CM fH (A 3) nxc (K * 8 + 8) → (∀ i, i < K * 8 ∨ K * 8 + d ≤ i → nxc i = nx1 i) → (∀ a, a < d → nxc (K * 8 + a) = nx1 (t * 8 + a)) →
    (∀ nx' A', LN A' → (∀ k, k ≠ 3 → A' k = A k) → CM fH (A' 3) nx' (K * 8 + 8) → (∀ i, i < K * 8 ∨ K * 8 + 8 ≤ i → nx' i = nx1 i) → (∀ a, a < 8 → nx' (K * 8 + a) = nx1 (t * 8 + a)) → M19 120 [.val (.ref (b + 1)), .val (.int (nI f)), .val (.int (nI c)), .val (.int (nI t)), .val (.int (nI N)), .val (.int (nI K)), .val (.int (nI (t * 8))), .val (.int (nI (K * 8))), .val (.int (nI 8)), l9] [] (put (b + 1) pre s A' post) Q) →
    M19 87 [.val (.ref (b + 1)), .val (.int (nI f)), .val (.int (nI c)), .val (.int (nI t)), .val (.int (nI N)), .val (.int (nI K)), .val (.int (nI (t * 8))), .val (.int (nI (K * 8))), .val (.int (nI d)), l9] [] (put (b + 1) pre s A post) Q := by
  intro r
  induction r with
  | zero =>
    intro d nxc l9 A e hL h3 h4 h5 hq
    obtain rfl : d = 8 := by omega
    have c1 : (nI 8 < 8) = False := lF (c := 8) (by omega) (by omega)
    rw [m19_87]
    simp [c1, m19_0, m19_1, m19_4u, m19_6, m19_7, m19_8, m19_11, m19_12, m19_13, m19_16, m19_17, m19_19, m19_22, m19_23, m19_26, m19_28, m19_29, m19_32, m19_33, m19_34, m19_35, m19_36, m19_37, m19_38, m19_41, m19_43, m19_44, m19_47, m19_48, m19_49, m19_50, m19_51, m19_54, m19_56, m19_57, m19_60, m19_61, m19_62, m19_63, m19_64, m19_67, m19_69, m19_70, m19_71, m19_72, m19_74, m19_75u, m19_77, m19_79, m19_81, m19_82u, m19_84, m19_85u, m19_89, m19_91, m19_94, m19_95, m19_98, m19_100, m19_102, m19_103, m19_104, m19_107, m19_109, m19_111, m19_112, m19_113, m19_114, m19_117, m19_121i, m19_123, m19_124u, m19_128, m19_131, m19_134, m19_136, m19_139, m19_140, m19_143, m19_145, m19_147, m19_148, m19_149, m19_150, m19_151, m19_152, m19_155, m19_156, m19_159, m19_161, m19_163, m19_164, m19_165, m19_166, m19_168, m19_169, m19_170, m19_173, m19_175, m19_176i, m19_178, m19_181, m19_184, m19_185, m19_188, m19_189, m19_191, m19_192, m19_193, m19_196, m19_198, m19_200, m19_201, nb0, nb1, ou_a, Option.toList_some, Option.toList_none, List.nil_append, List.cons_append]
    exact hq nxc A hL (fun _ _ => rfl) h3 h4 h5
  | succ r ih =>
    intro d nxc l9 A e hL h3 h4 h5 hq
    have c1 : (nI d < 8) = True := lT (c := 8) (by omega) (by omega)
    have q3 := in3 hL (i := K * 8 + d) (by omega)
    have q3t := in3 hL (i := t * 8 + d) (by omega)
    have v3t := h3 (t * 8 + d) (by omega)
    have l3 := ln3 hL
    rw [m19_87]
    simp [c1, q3, q3t, v3t, nI_add, nI_1, m19_0, m19_1, m19_4u, m19_6, m19_7, m19_8, m19_11, m19_12, m19_13, m19_16, m19_17, m19_19, m19_22, m19_23, m19_26, m19_28, m19_29, m19_32, m19_33, m19_34, m19_35, m19_36, m19_37, m19_38, m19_41, m19_43, m19_44, m19_47, m19_48, m19_49, m19_50, m19_51, m19_54, m19_56, m19_57, m19_60, m19_61, m19_62, m19_63, m19_64, m19_67, m19_69, m19_70, m19_71, m19_72, m19_74, m19_75u, m19_77, m19_79, m19_81, m19_82u, m19_84, m19_85u, m19_89, m19_91, m19_94, m19_95, m19_98, m19_100, m19_102, m19_103, m19_104, m19_107, m19_109, m19_111, m19_112, m19_113, m19_114, m19_117, m19_121i, m19_123, m19_124u, m19_128, m19_131, m19_134, m19_136, m19_139, m19_140, m19_143, m19_145, m19_147, m19_148, m19_149, m19_150, m19_151, m19_152, m19_155, m19_156, m19_159, m19_161, m19_163, m19_164, m19_165, m19_166, m19_168, m19_169, m19_170, m19_173, m19_175, m19_176i, m19_178, m19_181, m19_184, m19_185, m19_188, m19_189, m19_191, m19_192, m19_193, m19_196, m19_198, m19_200, m19_201, nb0, nb1, ou_a, Option.toList_some, Option.toList_none, List.nil_append, List.cons_append]
    have et : nxc (t * 8 + d) = nx1 (t * 8 + d) := h4 _ (by omega)
    refine ih (d + 1) (up nxc (K * 8 + d) (nxc (t * 8 + d))) _ _ (by omega) (LN_set hL) ?_ (fun i hi => by rw [up_ne (by omega)]; exact h4 i (by omega)) (fun a ha => ?_) (fun nx' A' k1 k2 k3 k4 k5 => hq nx' A' k1 (fun k hk => by rw [k2 k hk, ou_ne hk]) k3 k4 k5)
    · rw [ou_eq]; exact CM_set h3 rfl (by omega) (by omega) (by omega)
    · by_cases z : a = d
      · rw [z, up_eq]; exact et
      · rw [up_ne (by omega)]; exact h5 a (by omega)
theorem spR {K f zl : Nat} {l6 l7 : Slot} (eK : K = N + 1) (hS : SA w n N lab lk nx last) (hc : c < 8) (hn : n ≤ 64) (hN : N ≤ 125) (ht : t < N) (hb : ∀ i, nx1 i < 100000) : ∀ (r g pp : Nat) (nxc : Nat → Nat) (A : Nat → List Int32), g + r = 128 → LN A → CM fH (A 3) nxc (K * 8 + 8) → CM fH (A 4) lk N → CI w n N lab nx1 nxc c t zl pp → (pp ≠ 0 → g + (lab (pp - 1)).length ≤ n) → g ≤ n + 1 →
    (∀ pp' nx' g' A', LN A' → (∀ k, k ≠ 3 → A' k = A k) → CM fH (A' 3) nx' (K * 8 + 8) → CI w n N lab nx1 nx' c t zl pp' → (pp' = 0 ∨ nx' ((pp' - 1) * 8 + c) ≠ t + 1) → (∀ i, K * 8 + 8 ≤ i → nx' i = nxc i) → M19 184 [.val (.ref (b + 1)), .val (.int (nI f)), .val (.int (nI c)), .val (.int (nI t)), .val (.int (nI N)), .val (.int (nI K)), l6, l7, .val (.int (fH pp')), .val (.int (nI g'))] [] (put (b + 1) pre s A' post) Q) →
    M19 126 [.val (.ref (b + 1)), .val (.int (nI f)), .val (.int (nI c)), .val (.int (nI t)), .val (.int (nI N)), .val (.int (nI K)), l6, l7, .val (.int (fH pp)), .val (.int (nI g))] [] (put (b + 1) pre s A post) Q := by
  intro r
  induction r with
  | zero => intro g pp nxc A e _ _ _ _ _ h; omega
  | succ r ih =>
    intro g pp nxc A e hL h3 h4 hC hg hg2 hq
    have c1 : (nI g < 128) = True := lT (c := 128) (by omega) (by decide)
    rw [m19_126]
    cases pp with
    | zero =>
      simp [c1, fH_n, m19_0, m19_1, m19_4u, m19_6, m19_7, m19_8, m19_11, m19_12, m19_13, m19_16, m19_17, m19_19, m19_22, m19_23, m19_26, m19_28, m19_29, m19_32, m19_33, m19_34, m19_35, m19_36, m19_37, m19_38, m19_41, m19_43, m19_44, m19_47, m19_48, m19_49, m19_50, m19_51, m19_54, m19_56, m19_57, m19_60, m19_61, m19_62, m19_63, m19_64, m19_67, m19_69, m19_70, m19_71, m19_72, m19_74, m19_75u, m19_77, m19_79, m19_81, m19_82u, m19_84, m19_85u, m19_89, m19_91, m19_94, m19_95, m19_98, m19_100, m19_102, m19_103, m19_104, m19_107, m19_109, m19_111, m19_112, m19_113, m19_114, m19_117, m19_120, m19_121i, m19_123, m19_124u, m19_128, m19_131, m19_134, m19_136, m19_139, m19_140, m19_143, m19_145, m19_147, m19_148, m19_149, m19_150, m19_151, m19_152, m19_155, m19_156, m19_159, m19_161, m19_163, m19_164, m19_165, m19_166, m19_168, m19_169, m19_170, m19_173, m19_175, m19_176i, m19_178, m19_181, m19_185, m19_188, m19_189, m19_191, m19_192, m19_193, m19_196, m19_198, m19_200, m19_201, nb0, nb1, ou_a, Option.toList_some, Option.toList_none, List.nil_append, List.cons_append]
      exact hq 0 nxc g A hL (fun _ _ => rfl) h3 hC (Or.inl rfl) (fun _ _ => rfl)
    | succ q =>
      have hq1 := (hC.2.2.2 (by omega)).1
      have hq1 : q < N := hq1
      have lg : g + (lab q).length ≤ n := hg (by omega)
      have c2 : (nI q < 0) = False := nnF (by omega)
      have q3 := in3 hL (i := q * 8 + c) (by omega)
      have v3 := h3 (q * 8 + c) (by omega)
      have l3 := ln3 hL
      have nb : nxc (q * 8 + c) < 100000 := by
        by_cases k : c = c ∧ PS w n lab (q + 1) q ∧ nx1 (q * 8 + c) = t + 1
        · rw [(hC.1 q c hq1 hc).1 k]; omega
        · rw [(hC.1 q c hq1 hc).2 k]; exact hb _
      rw [fH_s]
      by_cases z : nxc (q * 8 + c) = t + 1
      · have z1 : (fH (nxc (q * 8 + c)) = nI t) = True := eq_true (by rw [z, fH_s])
        have q4 := in4 hL (i := q) (by omega)
        have v4 := h4 q hq1
        simp [c1, c2, q3, v3, z1, q4, v4, nI_add, nI_8, nI_1, m19_0, m19_1, m19_4u, m19_6, m19_7, m19_8, m19_11, m19_12, m19_13, m19_16, m19_17, m19_19, m19_22, m19_23, m19_26, m19_28, m19_29, m19_32, m19_33, m19_34, m19_35, m19_36, m19_37, m19_38, m19_41, m19_43, m19_44, m19_47, m19_48, m19_49, m19_50, m19_51, m19_54, m19_56, m19_57, m19_60, m19_61, m19_62, m19_63, m19_64, m19_67, m19_69, m19_70, m19_71, m19_72, m19_74, m19_75u, m19_77, m19_79, m19_81, m19_82u, m19_84, m19_85u, m19_89, m19_91, m19_94, m19_95, m19_98, m19_100, m19_102, m19_103, m19_104, m19_107, m19_109, m19_111, m19_112, m19_113, m19_114, m19_117, m19_120, m19_121i, m19_123, m19_124u, m19_128, m19_131, m19_134, m19_136, m19_139, m19_140, m19_143, m19_145, m19_147, m19_148, m19_149, m19_150, m19_151, m19_152, m19_155, m19_156, m19_159, m19_161, m19_163, m19_164, m19_165, m19_166, m19_168, m19_169, m19_170, m19_173, m19_175, m19_176i, m19_178, m19_181, m19_185, m19_188, m19_189, m19_191, m19_192, m19_193, m19_196, m19_198, m19_200, m19_201, nb0, nb1, ou_a, Option.toList_some, Option.toList_none, List.nil_append, List.cons_append]
        refine ih (g + 1) (lk q) _ _ (by omega) (LN_set hL) ?_ ?_ (CI_s hS hC hc z) (fun h => ?_) (by omega) (fun pp' nx' g' A' k1 k2 k3 k4 k5 k6 => hq pp' nx' g' A' k1 (fun k hk => by rw [k2 k hk, ou_ne hk]) k3 k4 k5 (fun i hi => by rw [k6 i hi, up_ne (by omega)]))
        · rw [ou_eq]; exact CM_set h3 (by rw [eK]; exact (fH_s (N + 1)).symm) (by omega) (by omega) (by omega)
        · (repeat rw [ou_ne (by decide)]); exact h4
        · rcases AI.lk0 hS hq1 with y | ⟨u, hu, y1, y2, y3⟩
          · exact absurd y.1 h
          · rw [y1]; show g + 1 + (lab u).length ≤ n; omega
      · have z1 : (fH (nxc (q * 8 + c)) = nI t) = False := eq_false (fun h => z (fH_i nb (by omega) (by rw [h, fH_s])))
        simp [c1, c2, q3, v3, z1, nI_add, nI_8, m19_0, m19_1, m19_4u, m19_6, m19_7, m19_8, m19_11, m19_12, m19_13, m19_16, m19_17, m19_19, m19_22, m19_23, m19_26, m19_28, m19_29, m19_32, m19_33, m19_34, m19_35, m19_36, m19_37, m19_38, m19_41, m19_43, m19_44, m19_47, m19_48, m19_49, m19_50, m19_51, m19_54, m19_56, m19_57, m19_60, m19_61, m19_62, m19_63, m19_64, m19_67, m19_69, m19_70, m19_71, m19_72, m19_74, m19_75u, m19_77, m19_79, m19_81, m19_82u, m19_84, m19_85u, m19_89, m19_91, m19_94, m19_95, m19_98, m19_100, m19_102, m19_103, m19_104, m19_107, m19_109, m19_111, m19_112, m19_113, m19_114, m19_117, m19_120, m19_121i, m19_123, m19_124u, m19_128, m19_131, m19_134, m19_136, m19_139, m19_140, m19_143, m19_145, m19_147, m19_148, m19_149, m19_150, m19_151, m19_152, m19_155, m19_156, m19_159, m19_161, m19_163, m19_164, m19_165, m19_166, m19_168, m19_169, m19_170, m19_173, m19_175, m19_176i, m19_178, m19_181, m19_185, m19_188, m19_189, m19_191, m19_192, m19_193, m19_196, m19_198, m19_200, m19_201, nb0, nb1, ou_a, Option.toList_some, Option.toList_none, List.nil_append, List.cons_append]
        have := hq (q + 1) nxc g A hL (fun _ _ => rfl) h3 hC (Or.inr z) (fun _ _ => rfl)
        rw [fH_s] at this
        exact this
theorem spW {q : Nat} {Z : List Nat} (hS : SA w n N lab lk nx last) (hw : w n = c) (hc : c < 8) (hn : n ≤ 64) (hN : N ≤ 125) (ht : t < N) (hq1 : q < N) (pq : lab q <+: tx w n) (eZ : Z = c :: lab q) (hZ : ZP w n Z) (t1 : Z <+: lab t) (t2 : OLE w n Z (lab t)) (hA : AE w n N lab nx nx1 c Z) (hb : ∀ i, nx1 i < 100000) (hz : ∀ i, (N + 1) * 8 ≤ i → nx1 i = 0)
    {ln1 lk1 fe1 : Nat → Nat} {cl1 : Nat → Bool} (hT : TB (N + 1) ln1 lk1 nx1 fe1 cl1 A) (zT : ZT (N + 1) ln1 lk1 nx1 fe1 cl1) (el : ∀ v, v < N → lk1 v = lk v) (s5 : s 5 = nI (N + 1))
    (hQ : ∀ nx2 s' A', TB (N + 2) (up ln1 (N + 1) (ln1 q + 1)) (up (up (up lk1 (N + 1) (lk1 t)) t (N + 2)) N (N + 2)) nx2 (up fe1 (N + 1) (fe1 t)) (up cl1 (N + 1) true) A' → CE w n N lab nx1 nx2 c t → (∀ i, (N + 2) * 8 ≤ i → nx2 i = 0) → FT A A' → (∀ i, i ≠ 5 → s' i = s i) → s' 5 = nI (N + 2) → Q none (put (b + 1) pre s' A' post)) :
    M19 0 [.val (.ref (b + 1)), .val (.int (nI q)), .val (.int (nI c)), .val (.int (nI t)), .val (.int (nI N)), .unset, .unset, .unset, .unset, .unset] [] (put (b + 1) pre s A post) Q := by
  simp [s5, nI_1, m19_0, m19_1, m19_4u, m19_6, m19_7, m19_8, m19_11, m19_12, m19_13, m19_16, m19_17, m19_19, m19_22, m19_23, m19_26, m19_28, m19_29, m19_32, m19_33, m19_34, m19_35, m19_36, m19_37, m19_38, m19_41, m19_43, m19_44, m19_47, m19_48, m19_49, m19_50, m19_51, m19_54, m19_56, m19_57, m19_60, m19_61, m19_62, m19_63, m19_64, m19_67, m19_69, m19_70, m19_71, m19_72, m19_74, m19_75u, m19_77, m19_79, m19_81, m19_82u, m19_84, m19_85u, m19_89, m19_91, m19_94, m19_95, m19_98, m19_100, m19_102, m19_103, m19_104, m19_107, m19_109, m19_111, m19_112, m19_113, m19_114, m19_117, m19_120, m19_121i, m19_123, m19_124u, m19_128, m19_131, m19_134, m19_136, m19_139, m19_140, m19_143, m19_145, m19_147, m19_148, m19_149, m19_150, m19_151, m19_152, m19_155, m19_156, m19_159, m19_161, m19_163, m19_164, m19_165, m19_166, m19_168, m19_169, m19_170, m19_173, m19_175, m19_176i, m19_178, m19_181, m19_184, m19_185, m19_188, m19_189, m19_191, m19_192, m19_193, m19_196, m19_198, m19_200, m19_201, nb0, nb1, ou_a, Option.toList_some, Option.toList_none, List.nil_append, List.cons_append]
  refine csW hT zT (by omega) (fun A1 hT1 F1 => ?_)
  have hL := hT1.ln
  have q5 := in5 hL (i := N + 1) (by omega)
  have q5q := in5 hL (i := q) (by omega)
  have v5q := hT1.a5 q (by omega)
  have q4 := in4 hL (i := N + 1) (by omega)
  have q4t := in4 hL (i := t) (by omega)
  have v4t := hT1.a4 t (by omega)
  have q6 := in6 hL (i := N + 1) (by omega)
  have q6t := in6 hL (i := t) (by omega)
  have v6t := hT1.a6 t (by omega)
  have q7 := in7 hL (i := N + 1) (by omega)
  have l4 := ln4 hL
  have l5 := ln5 hL
  have l6 := ln6 hL
  have l7 := ln7 hL
  simp [q5, q5q, v5q, q4, q4t, v4t, q6, q6t, v6t, q7, nI_1, nI_8, m19_0, m19_1, m19_4u, m19_6, m19_7, m19_8, m19_11, m19_12, m19_13, m19_16, m19_17, m19_19, m19_22, m19_23, m19_26, m19_28, m19_29, m19_32, m19_33, m19_34, m19_35, m19_36, m19_37, m19_38, m19_41, m19_43, m19_44, m19_47, m19_48, m19_49, m19_50, m19_51, m19_54, m19_56, m19_57, m19_60, m19_61, m19_62, m19_63, m19_64, m19_67, m19_69, m19_70, m19_71, m19_72, m19_74, m19_75u, m19_77, m19_79, m19_81, m19_82u, m19_84, m19_85u, m19_89, m19_91, m19_94, m19_95, m19_98, m19_100, m19_102, m19_103, m19_104, m19_107, m19_109, m19_111, m19_112, m19_113, m19_114, m19_117, m19_120, m19_121i, m19_123, m19_124u, m19_128, m19_131, m19_134, m19_136, m19_139, m19_140, m19_143, m19_145, m19_147, m19_148, m19_149, m19_150, m19_151, m19_152, m19_155, m19_156, m19_159, m19_161, m19_163, m19_164, m19_165, m19_166, m19_168, m19_169, m19_170, m19_173, m19_175, m19_176i, m19_178, m19_181, m19_184, m19_185, m19_188, m19_189, m19_191, m19_192, m19_193, m19_196, m19_198, m19_200, m19_201, nb0, nb1, ou_a, Option.toList_some, Option.toList_none, List.nil_append, List.cons_append]
  refine spC (K := N + 1) (f := q) (nx1 := nx1) (by omega) (by omega) 8 0 nx1 _ _ (by omega) ?_ ?_ (fun _ _ => rfl) (fun a ha => absurd ha (by omega)) (fun nx2 A2 j1 j2 j3 j4 j5 => ?_)
  · (repeat refine LN_ou ?_ (by simp only [setA_len]; exact hL _)); exact hL
  · (repeat rw [ou_ne (by decide)]); rw [← Nat.succ_mul]; exact hT1.a3
  simp [m19_0, m19_1, m19_4u, m19_6, m19_7, m19_8, m19_11, m19_12, m19_13, m19_16, m19_17, m19_19, m19_22, m19_23, m19_26, m19_28, m19_29, m19_32, m19_33, m19_34, m19_35, m19_36, m19_37, m19_38, m19_41, m19_43, m19_44, m19_47, m19_48, m19_49, m19_50, m19_51, m19_54, m19_56, m19_57, m19_60, m19_61, m19_62, m19_63, m19_64, m19_67, m19_69, m19_70, m19_71, m19_72, m19_74, m19_75u, m19_77, m19_79, m19_81, m19_82u, m19_84, m19_85u, m19_89, m19_91, m19_94, m19_95, m19_98, m19_100, m19_102, m19_103, m19_104, m19_107, m19_109, m19_111, m19_112, m19_113, m19_114, m19_117, m19_120, m19_121i, m19_123, m19_124u, m19_128, m19_131, m19_134, m19_136, m19_139, m19_140, m19_143, m19_145, m19_147, m19_148, m19_149, m19_150, m19_151, m19_152, m19_155, m19_156, m19_159, m19_161, m19_163, m19_164, m19_165, m19_166, m19_168, m19_169, m19_170, m19_173, m19_175, m19_176i, m19_178, m19_181, m19_184, m19_185, m19_188, m19_189, m19_191, m19_192, m19_193, m19_196, m19_198, m19_200, m19_201, nb0, nb1, ou_a, Option.toList_some, Option.toList_none, List.nil_append, List.cons_append]
  have hCI : CI w n N lab nx1 nx2 c t ((lab q).length + 1) (q + 1) := CI_0 (by rw [← eZ]; exact hA) hq1 pq ht j5 (fun v a hv ha => j4 _ (by omega))
  have e4 : A2 4 = setA (A1 4) (nI (N + 1)) (fH (lk1 t)) := by rw [j2 4 (by decide)]; (repeat rw [ou_ne (by decide)]); rw [ou_eq]
  have go := spR (Q := Q) (b := b) (pre := pre) (post := post) (s := ou s 5 (nI (N + 1 + 1))) (K := N + 1) (f := q) (zl := (lab q).length + 1) (l6 := .val (.int (nI (t * 8)))) (l7 := .val (.int (nI ((N + 1) * 8)))) rfl hS hc hn hN ht hb 128 0 (q + 1) nx2 A2 (by omega) j1 j3 ?_ hCI (fun _ => ?_) (by omega) (fun pp' nx3 g' A3 k1 k2 k3 k4 k5 k6 => ?_)
  · rw [fH_s] at go
    exact go
  · rw [e4]
    intro i hi
    rw [cf_setB (by omega) (by omega) (by omega), if_neg (by omega), hT1.a4 i (by omega), el i hi]
  · have := pre_len pq
    rw [tx_len] at this
    show 0 + (lab q).length ≤ n
    omega
  · have zl : (lab q).length + 1 = Z.length := by rw [eZ, List.length_cons]
    rw [zl] at k4
    have hCE := CI_e hS hw hc hZ ht t1 t2 hA k4 k5
    have g4 : A3 4 = setA (A1 4) (nI (N + 1)) (fH (lk1 t)) := by rw [k2 4 (by decide)]; exact e4
    have p4 := in4 k1 (i := t) (by omega)
    have p4N := in4 k1 (i := N) (by omega)
    have m4 := ln4 k1
    have r4 : inB (nI N) (setA (A3 4) (nI t) (nI (N + 1))) := nI_inB (by rw [setA_len]; omega) (by rw [setA_len]; omega)
    simp [p4, p4N, r4, m19_0, m19_1, m19_4u, m19_6, m19_7, m19_8, m19_11, m19_12, m19_13, m19_16, m19_17, m19_19, m19_22, m19_23, m19_26, m19_28, m19_29, m19_32, m19_33, m19_34, m19_35, m19_36, m19_37, m19_38, m19_41, m19_43, m19_44, m19_47, m19_48, m19_49, m19_50, m19_51, m19_54, m19_56, m19_57, m19_60, m19_61, m19_62, m19_63, m19_64, m19_67, m19_69, m19_70, m19_71, m19_72, m19_74, m19_75u, m19_77, m19_79, m19_81, m19_82u, m19_84, m19_85u, m19_89, m19_91, m19_94, m19_95, m19_98, m19_100, m19_102, m19_103, m19_104, m19_107, m19_109, m19_111, m19_112, m19_113, m19_114, m19_117, m19_120, m19_121i, m19_123, m19_124u, m19_128, m19_131, m19_134, m19_136, m19_139, m19_140, m19_143, m19_145, m19_147, m19_148, m19_149, m19_150, m19_151, m19_152, m19_155, m19_156, m19_159, m19_161, m19_163, m19_164, m19_165, m19_166, m19_168, m19_169, m19_170, m19_173, m19_175, m19_176i, m19_178, m19_181, m19_184, m19_185, m19_188, m19_189, m19_191, m19_192, m19_193, m19_196, m19_198, m19_200, m19_201, nb0, nb1, ou_a, Option.toList_some, Option.toList_none, List.nil_append, List.cons_append]
    refine hQ nx3 _ _ ⟨?_, ?_, ?_, ?_, ?_, ?_, by omega⟩ hCE (fun i hi => ?_) (fun k hk => ?_) (fun i hi => os_ne hi) (by rw [os_eq])
    · (repeat refine LN_ou ?_ (by simp only [setA_len]; exact k1 _)); exact k1
    · (repeat rw [ou_ne (by decide)]); rw [show (N + 2) * 8 = (N + 1) * 8 + 8 by omega]; exact k3
    · rw [ou_eq, g4]
      have c0 : CM fH (setA (A1 4) (nI (N + 1)) (fH (lk1 t))) (up lk1 (N + 1) (lk1 t)) (N + 2) := CM_set hT1.a4 rfl (by omega) (by omega) (by omega)
      have c1 := CM_set (j := t) (v := nI (N + 1)) (w := N + 2) c0 (fH_s (N + 1)).symm (by rw [setA_len]; omega) (by rw [setA_len]; omega) (by omega)
      exact CM_set (j := N) (v := nI (N + 1)) (w := N + 2) c1 (fH_s (N + 1)).symm (by simp only [setA_len]; omega) (by simp only [setA_len]; omega) (by omega)
    · (repeat rw [ou_ne (by decide)]); rw [k2 5 (by decide), j2 5 (by decide)]; (repeat rw [ou_ne (by decide)]); rw [ou_eq]; exact CM_set hT1.a5 rfl (by omega) (by omega) (by omega)
    · (repeat rw [ou_ne (by decide)]); rw [k2 6 (by decide), j2 6 (by decide)]; (repeat rw [ou_ne (by decide)]); rw [ou_eq]; exact CM_set hT1.a6 rfl (by omega) (by omega) (by omega)
    · (repeat rw [ou_ne (by decide)]); rw [k2 7 (by decide), j2 7 (by decide)]; (repeat rw [ou_ne (by decide)]); rw [ou_eq]; exact CM_set (w := true) hT1.a7 rfl (by omega) (by omega) (by omega)
    · rw [k6 i (by omega), j4 i (by omega)]; exact hz i (by omega)
    · rw [ou_ne (by omega), ou_ne (by omega), k2 k (by omega), j2 k (by omega), ou_ne (by omega), ou_ne (by omega), ou_ne (by omega), ou_ne (by omega)]
      exact F1 k hk
end Tab
def SK (n N : Nat) (w : Nat → Nat) (lab : Nat → List Nat) (lk nx fe : Nat → Nat) (cl : Nat → Bool) (last : Nat) (A : Nat → List Int32) : Prop := (SA w n N lab lk nx last) ∧ (FE w n N lab fe) ∧ (CLN w n N lab cl) ∧ (TB N (fun v => (lab v).length) lk nx fe cl A) ∧ (ZT N (fun v => (lab v).length) lk nx fe cl) ∧ (n ≤ 2 → N ≤ n + 1) ∧ (2 < n → N + 1 ≤ 2 * n)
theorem SK.sa {n N : Nat} {w : Nat → Nat} {lab : Nat → List Nat} {lk nx fe : Nat → Nat} {cl : Nat → Bool} {last : Nat} {A : Nat → List Int32} (h : SK n N w lab lk nx fe cl last A) : SA w n N lab lk nx last := h.1
theorem SK.fe {n N : Nat} {w : Nat → Nat} {lab : Nat → List Nat} {lk nx fe : Nat → Nat} {cl : Nat → Bool} {last : Nat} {A : Nat → List Int32} (h : SK n N w lab lk nx fe cl last A) : FE w n N lab fe := h.2.1
theorem SK.cn {n N : Nat} {w : Nat → Nat} {lab : Nat → List Nat} {lk nx fe : Nat → Nat} {cl : Nat → Bool} {last : Nat} {A : Nat → List Int32} (h : SK n N w lab lk nx fe cl last A) : CLN w n N lab cl := h.2.2.1
theorem SK.tb {n N : Nat} {w : Nat → Nat} {lab : Nat → List Nat} {lk nx fe : Nat → Nat} {cl : Nat → Bool} {last : Nat} {A : Nat → List Int32} (h : SK n N w lab lk nx fe cl last A) : TB N (fun v => (lab v).length) lk nx fe cl A := h.2.2.2.1
theorem SK.zt {n N : Nat} {w : Nat → Nat} {lab : Nat → List Nat} {lk nx fe : Nat → Nat} {cl : Nat → Bool} {last : Nat} {A : Nat → List Int32} (h : SK n N w lab lk nx fe cl last A) : ZT N (fun v => (lab v).length) lk nx fe cl := h.2.2.2.2.1
theorem SK.b1 {n N : Nat} {w : Nat → Nat} {lab : Nat → List Nat} {lk nx fe : Nat → Nat} {cl : Nat → Bool} {last : Nat} {A : Nat → List Int32} (h : SK n N w lab lk nx fe cl last A) : n ≤ 2 → N ≤ n + 1 := h.2.2.2.2.2.1
theorem SK.b2 {n N : Nat} {w : Nat → Nat} {lab : Nat → List Nat} {lk nx fe : Nat → Nat} {cl : Nat → Bool} {last : Nat} {A : Nat → List Int32} (h : SK n N w lab lk nx fe cl last A) : 2 < n → N + 1 ≤ 2 * n := h.2.2.2.2.2.2
section Ext2
variable {b : Nat} {pre post : AHeap} {Q : Option Value → AHeap → Prop} {s : Nat → Int32} {A A' : Nat → List Int32} {n N c last : Nat} {lk nx fe w : Nat → Nat} {cl : Nat → Bool} {lab : Nat → List Nat}
theorem SK.ar (h : SK n N w lab lk nx fe cl last A) (hl : LN A') (e : ∀ k, 3 ≤ k → k ≤ 7 → A' k = A k) : SK n N w lab lk nx fe cl last A' := ⟨h.sa, h.fe, h.cn, h.tb.ar hl e, h.zt, h.b1, h.b2⟩
theorem SK.nb (h : SK n N w lab lk nx fe cl last A) (hn : n ≤ 63) : N ≤ 125 := by
  rcases Nat.lt_or_ge 2 n with q | q
  · have := h.b2 q; omega
  · have := h.b1 q; omega
theorem nx_b (hS : SA w n N lab lk nx last) (hz : ∀ i, N * 8 ≤ i → nx i = 0) (hN : N ≤ 200) (i : Nat) : nx i < 50000 := by
  rcases Nat.lt_or_ge i (N * 8) with q | q
  · rcases hS.2.2.2.2.2.1 (i / 8) (i % 8) (by omega) (by omega) with k | ⟨u, hu, k, _⟩
    · rw [show i / 8 * 8 + i % 8 = i by omega] at k; omega
    · rw [show i / 8 * 8 + i % 8 = i by omega] at k; omega
  · rw [hz i q]; omega
set_option maxRecDepth 1000000 in
set_option maxHeartbeats 20000000 in
theorem exW (h : SK n N w lab lk nx fe cl last A) (hw : w n = c) (hc : c < 8) (hn : n ≤ 63) (s5 : s 5 = nI N) (s6 : s 6 = nI last)
    (hQ : ∀ N' lab' lk' nx' fe' cl' last' s' A', SK (n + 1) N' w lab' lk' nx' fe' cl' last' A' → FT A A' → (∀ i, i < 5 → s' i = s i) → s' 5 = nI N' → s' 6 = nI last' → s' 8 = 0 → Q none (put (b + 1) pre s' A' post)) : M9 0 [.val (.ref (b + 1)), .val (.int (nI c)), .unset, .unset, .unset] [] (put (b + 1) pre s A post) Q := by
  have hN := h.nb hn
  have hS := h.sa
  have n0 := hS.1.1
  have la := hS.2.2.2.2.2.2
  have c1 : (128 < nI (N + 2)) = False := lF (a := 128) (by omega) (by omega)
  have c2 : (nI c < 0) = False := nnF (by omega)
  have c3 : (nI c < 8) = True := lT (c := 8) hc (by decide)
  have e2 : nI N + 2 = nI (N + 2) := nI_add N 2
  simp [s5, e2, c1, c2, c3, nI_1, m9_0, m9_1, m9_4, m9_5, m9_6, m9_9, m9_12, m9_13, m9_16, m9_17, m9_19, m9_22, m9_23, m9_24, m9_27u, m9_28, m9_29, m9_30, m9_33, m9_34, m9_35, m9_38, m9_39, m9_40, m9_43, m9_44, m9_47, m9_48, m9_49, m9_52, m9_53, m9_56, m9_57, m9_58, m9_59, m9_60, m9_61, m9_64, m9_65, m9_66, m9_69, m9_70, m9_71, m9_72, m9_73, m9_74, m9_75, m9_76, m9_79, m9_80, m9_81, m9_84u, m9_85, m9_86, m9_89, m9_90, m9_93, m9_94, m9_95, m9_96, m9_99, m9_100, m9_103, m9_104, m9_106, m9_107, m9_108, m9_109, m9_110u, m9_112, m9_113, m9_116, m9_117, m9_118, m9_119, m9_120, m9_121, m9_124, m9_126, m9_127, m9_130, m9_131, m9_134, m9_135, m9_137, m9_138, m9_141, m9_142, m9_143, m9_144, m9_146, m9_147, m9_150, m9_151, m9_152, m9_155, m9_156, m9_157, m9_160, m9_161, m9_164, m9_165, m9_166, m9_167, m9_170, m9_171, m9_174, m9_175, m9_176, m9_177, m9_178, m9_179, m9_182, m9_183, m9_184, m9_187, nb0, nb1, ou_a, Option.toList_some, Option.toList_none, List.nil_append, List.cons_append]
  refine csW h.tb h.zt (by omega) (fun A1 hT1 F1 => ?_)
  have hL := hT1.ln
  have q5 := in5 hL (i := N) (by omega)
  have q5l := in5 hL (i := last) (by omega)
  have v5l : getA (A1 5) (nI last) = nI n := by rw [hT1.a5 last (by omega)]; show nI (lab last).length = _; rw [la.2, tx_len]
  have q6 := in6 hL (i := N) (by omega)
  have l5 := ln5 hL
  have l6 := ln6 hL
  have w5 : getA (setA (A1 5) (nI N) (nI (n + 1))) (nI N) = nI (n + 1) := by rw [cf_setB (by omega) (by omega) (by omega), if_pos rfl]
  have r5 : inB (nI N) (setA (A1 5) (nI N) (nI (n + 1))) := nI_inB (by rw [setA_len]; omega) (by rw [setA_len]; omega)
  have en : nI (n + 1) - 1 = nI n := nI_sub (c := 1) (by omega)
  simp [s6, q5, q5l, v5l, q6, w5, r5, en, nI_1, m9_0, m9_1, m9_4, m9_5, m9_6, m9_9, m9_12, m9_13, m9_16, m9_17, m9_19, m9_22, m9_23, m9_24, m9_27u, m9_28, m9_29, m9_30, m9_33, m9_34, m9_35, m9_38, m9_39, m9_40, m9_43, m9_44, m9_47, m9_48, m9_49, m9_52, m9_53, m9_56, m9_57, m9_58, m9_59, m9_60, m9_61, m9_64, m9_65, m9_66, m9_69, m9_70, m9_71, m9_72, m9_73, m9_74, m9_75, m9_76, m9_79, m9_80, m9_81, m9_84u, m9_85, m9_86, m9_89, m9_90, m9_93, m9_94, m9_95, m9_96, m9_99, m9_100, m9_103, m9_104, m9_106, m9_107, m9_108, m9_109, m9_110u, m9_112, m9_113, m9_116, m9_117, m9_118, m9_119, m9_120, m9_121, m9_124, m9_126, m9_127, m9_130, m9_131, m9_134, m9_135, m9_137, m9_138, m9_141, m9_142, m9_143, m9_144, m9_146, m9_147, m9_150, m9_151, m9_152, m9_155, m9_156, m9_157, m9_160, m9_161, m9_164, m9_165, m9_166, m9_167, m9_170, m9_171, m9_174, m9_175, m9_176, m9_177, m9_178, m9_179, m9_182, m9_183, m9_184, m9_187, nb0, nb1, ou_a, Option.toList_some, Option.toList_none, List.nil_append, List.cons_append]
  -- the tables behind the new state's head
  have hT2 : TB (N + 1) (up (fun v => (lab v).length) N (n + 1)) lk nx (up fe N n) cl (ou (ou A1 5 (setA (A1 5) (nI N) (nI (n + 1)))) 6 (setA (A1 6) (nI N) (nI n))) := by
    refine ⟨LN_ou (LN_ou hL (by rw [setA_len]; exact hL _)) (by rw [setA_len]; exact hL _), ?_, ?_, ?_, ?_, ?_, hT1.nb⟩
    · (repeat rw [ou_ne (by decide)]); exact hT1.a3
    · (repeat rw [ou_ne (by decide)]); exact hT1.a4
    · (repeat rw [ou_ne (by decide)]); rw [ou_eq]; exact CM_set hT1.a5 rfl (by omega) (by omega) (by omega)
    · rw [ou_eq]; exact CM_set hT1.a6 rfl (by omega) (by omega) (by omega)
    · (repeat rw [ou_ne (by decide)]); exact hT1.a7
  have F2 : FT A (ou (ou A1 5 (setA (A1 5) (nI N) (nI (n + 1)))) 6 (setA (A1 6) (nI N) (nI n))) := FT_t (FT_t F1 (FT_o (by decide) (by decide))) (FT_o (by decide) (by decide))
  refine aeW hS hc (by omega) (by omega) hT2 h.zt.z3 (fun pp nx1 A3 hT3 hAI hpp F3 hz3 => ?_)
  have F3' : FT A A3 := FT_t F2 (fun k hk => F3 k (by omega))
  have nxb : ∀ i, nx1 i < 100000 := fun i => by
    rcases Nat.lt_or_ge i ((N + 1) * 8) with q | q
    · have e8 : i / 8 * 8 + i % 8 = i := by omega
      rcases Nat.lt_or_ge i (N * 8) with q' | q'
      · by_cases k : i % 8 = c ∧ PS w n lab pp (i / 8)
        · have := ((hAI.1 (i / 8) (i % 8) (by omega) (by omega)).1 k).1
          rw [e8] at this; omega
        · have := (hAI.1 (i / 8) (i % 8) (by omega) (by omega)).2 k
          rw [e8] at this
          have := nx_b hS h.zt.z3 (by omega) i
          omega
      · have := hAI.2.1 (i - N * 8) (by omega)
        rw [show N * 8 + (i - N * 8) = i by omega] at this
        omega
    · rw [hz3 i q]; omega
  -- lengths of the new labels
  have lnN : ∀ v, up (fun v => (lab v).length) N (n + 1) v = (up lab N (tx w (n + 1)) v).length := fun v => by
    by_cases e : v = N
    · rw [e, up_eq, up_eq, tx_len]
    · rw [up_ne e, up_ne e]
  have clN : ∀ v, cl v = up cl N false v := fun v => by
    by_cases e : v = N
    · rw [e, up_eq]; exact h.zt.z7 N (Nat.le_refl _)
    · rw [up_ne e]
  -- the end: no split, link to t
  have noS : ∀ (t : Nat) (Z : List Nat) (A4 : Nat → List Int32) (l3 l4 : Slot), ZP w n Z → t < N → lab t = Z → AE w n N lab nx nx1 c Z → A4 = ou A3 4 (setA (A3 4) (nI N) (nI t)) → M9 150 [.val (.ref (b + 1)), .val (.int (nI c)), .val (.int (nI N)), l3, l4] [] (put (b + 1) pre (ou s 5 (nI (N + 1))) A4 post) Q := by
    intro t Z A4 l3 l4 hZ ht et hAE eA
    have l4' := ln4 hT3.ln
    have hT4 : TB (N + 1) (up (fun v => (lab v).length) N (n + 1)) (up lk N (t + 1)) nx1 (up fe N n) cl A4 := by
      rw [eA]
      refine ⟨LN_set hT3.ln, ?_, ?_, ?_, ?_, ?_, hT3.nb⟩
      · (repeat rw [ou_ne (by decide)]); exact hT3.a3
      · rw [ou_eq]; exact CM_set hT3.a4 (fH_s t).symm (by omega) (by omega) (by omega)
      · (repeat rw [ou_ne (by decide)]); exact hT3.a5
      · (repeat rw [ou_ne (by decide)]); exact hT3.a6
      · (repeat rw [ou_ne (by decide)]); exact hT3.a7
    have p5 := in5 hT4.ln (i := N) (by omega)
    have p4 := in4 hT4.ln (i := N) (by omega)
    have u4 : getA (A4 4) (nI N) = nI t := by rw [hT4.a4 N (by omega), up_eq, fH_s]
    have p5t := in5 hT4.ln (i := t) (by omega)
    simp [p5, p4, u4, p5t, m9_0, m9_1, m9_4, m9_5, m9_6, m9_9, m9_12, m9_13, m9_16, m9_17, m9_19, m9_22, m9_23, m9_24, m9_27u, m9_28, m9_29, m9_30, m9_33, m9_34, m9_35, m9_38, m9_39, m9_40, m9_43, m9_44, m9_47, m9_48, m9_49, m9_52, m9_53, m9_56, m9_57, m9_58, m9_59, m9_60, m9_61, m9_64, m9_65, m9_66, m9_69, m9_70, m9_71, m9_72, m9_73, m9_74, m9_75, m9_76, m9_79, m9_80, m9_81, m9_84u, m9_85, m9_86, m9_89, m9_90, m9_93, m9_94, m9_95, m9_96, m9_99, m9_100, m9_103, m9_104, m9_106, m9_107, m9_108, m9_109, m9_110u, m9_112, m9_113, m9_116, m9_117, m9_118, m9_119, m9_120, m9_121, m9_124, m9_126, m9_127, m9_130, m9_131, m9_134, m9_135, m9_137, m9_138, m9_141, m9_142, m9_143, m9_144, m9_146, m9_147, m9_150, m9_151, m9_152, m9_155, m9_156, m9_157, m9_160, m9_161, m9_164, m9_165, m9_166, m9_167, m9_170, m9_171, m9_174, m9_175, m9_176, m9_177, m9_178, m9_179, m9_182, m9_183, m9_184, m9_187, nb0, nb1, ou_a, Option.toList_some, Option.toList_none, List.nil_append, List.cons_append]
    refine hQ (N + 1) _ (up lk N (t + 1)) nx1 (up fe N n) (up cl N false) N _ A4 ⟨SA.ex hS hw hZ ht et hAE, h.fe.ex, h.cn.ex hS, ⟨hT4.ln, hT4.a3, hT4.a4, CM_ext hT4.a5 (fun i _ => lnN i), hT4.a6, CM_ext hT4.a7 (fun i _ => clN i), hT4.nb⟩, ⟨fun i hi => hz3 i hi, fun i hi => by rw [up_ne (by omega)]; exact h.zt.z4 i (by omega), fun i hi => ?_, fun i hi => by rw [up_ne (by omega)]; exact h.zt.z6 i (by omega), fun i hi => by rw [up_ne (by omega)]; exact h.zt.z7 i (by omega)⟩, fun k => ?_, fun k => ?_⟩ ?_ (fun i hi => ?_) ?_ ?_ ?_
    · show (up lab N (tx w (n + 1)) i).length = 0; rw [up_ne (by omega)]; exact h.zt.z5 i (by omega)
    · have := h.b1 (by omega); omega
    · rcases Nat.lt_or_ge 2 n with q | q
      · have := h.b2 q; omega
      · have := h.b1 q; omega
    · rw [eA]; exact FT_t F3' (FT_o (by decide) (by decide))
    · simp only [ou_a]
      repeat rw [if_neg (by omega)]
    · simp only [ou_a]; simp
    · simp only [ou_a]; simp
    · simp only [ou_a]; simp
  cases pp with
  | zero =>
    obtain ⟨hZ, hAE⟩ := AI_n hS hw hc hAI
    have q4 := in4 hT3.ln (i := N) (by omega)
    simp [fH_n, q4, m9_0, m9_1, m9_4, m9_5, m9_6, m9_9, m9_12, m9_13, m9_16, m9_17, m9_19, m9_22, m9_23, m9_24, m9_27u, m9_28, m9_29, m9_30, m9_33, m9_34, m9_35, m9_38, m9_39, m9_40, m9_43, m9_44, m9_47, m9_48, m9_49, m9_52, m9_53, m9_56, m9_57, m9_58, m9_59, m9_60, m9_61, m9_64, m9_65, m9_66, m9_69, m9_70, m9_71, m9_72, m9_73, m9_74, m9_75, m9_76, m9_79, m9_80, m9_81, m9_84u, m9_85, m9_86, m9_89, m9_90, m9_93, m9_94, m9_95, m9_96, m9_99, m9_100, m9_103, m9_104, m9_106, m9_107, m9_108, m9_109, m9_110u, m9_112, m9_113, m9_116, m9_117, m9_118, m9_119, m9_120, m9_121, m9_124, m9_126, m9_127, m9_130, m9_131, m9_134, m9_135, m9_137, m9_138, m9_141, m9_142, m9_143, m9_144, m9_146, m9_147, m9_151, m9_152, m9_155, m9_156, m9_157, m9_160, m9_161, m9_164, m9_165, m9_166, m9_167, m9_170, m9_171, m9_174, m9_175, m9_176, m9_177, m9_178, m9_179, m9_182, m9_183, m9_184, m9_187, nb0, nb1, ou_a, Option.toList_some, Option.toList_none, List.nil_append, List.cons_append]
    exact noS 0 [] _ _ _ hZ n0 hS.1.2.1 hAE rfl
  | succ q =>
    obtain ⟨hq1, pq, hZ, hAE, t, ht, e1, t1, t2⟩ := AI_y hS hw hc hAI (hpp (by omega))
    have lq : (lab q).length ≤ n := by have := pre_len pq; rw [tx_len] at this; exact this
    have c4 : (nI q < 0) = False := nnF (by omega)
    have q3 := in3 hT3.ln (i := q * 8 + c) (by omega)
    have v3 : getA (A3 3) (nI (q * 8 + c)) = nI t := by rw [hT3.a3 (q * 8 + c) (by omega), e1, fH_s]
    have q5q := in5 hT3.ln (i := q) (by omega)
    have v5q : getA (A3 5) (nI q) = nI (lab q).length := by rw [hT3.a5 q (by omega), up_ne (by omega)]
    have q5t := in5 hT3.ln (i := t) (by omega)
    have v5t : getA (A3 5) (nI t) = nI (lab t).length := by rw [hT3.a5 t (by omega), up_ne (by omega)]
    have lt := Sb_len (hS.2.2.1 t ht).1
    rw [fH_s]
    by_cases z : (lab q).length + 1 = (lab t).length
    · have z1 : (nI ((lab q).length + 1) = nI (lab t).length) = True := eT z
      have q4 := in4 hT3.ln (i := N) (by omega)
      simp [c4, q3, v3, q5q, v5q, q5t, v5t, z1, q4, nI_add, nI_8, nI_1, m9_0, m9_1, m9_4, m9_5, m9_6, m9_9, m9_12, m9_13, m9_16, m9_17, m9_19, m9_22, m9_23, m9_24, m9_27u, m9_28, m9_29, m9_30, m9_33, m9_34, m9_35, m9_38, m9_39, m9_40, m9_43, m9_44, m9_47, m9_48, m9_49, m9_52, m9_53, m9_56, m9_57, m9_58, m9_59, m9_60, m9_61, m9_64, m9_65, m9_66, m9_69, m9_70, m9_71, m9_72, m9_73, m9_74, m9_75, m9_76, m9_79, m9_80, m9_81, m9_84u, m9_85, m9_86, m9_89, m9_90, m9_93, m9_94, m9_95, m9_96, m9_99, m9_100, m9_103, m9_104, m9_106, m9_107, m9_108, m9_109, m9_110u, m9_112, m9_113, m9_116, m9_117, m9_118, m9_119, m9_120, m9_121, m9_124, m9_126, m9_127, m9_130, m9_131, m9_134, m9_135, m9_137, m9_138, m9_141, m9_142, m9_143, m9_144, m9_146, m9_147, m9_151, m9_152, m9_155, m9_156, m9_157, m9_160, m9_161, m9_164, m9_165, m9_166, m9_167, m9_170, m9_171, m9_174, m9_175, m9_176, m9_177, m9_178, m9_179, m9_182, m9_183, m9_184, m9_187, nb0, nb1, ou_a, Option.toList_some, Option.toList_none, List.nil_append, List.cons_append]
      exact noS t (c :: lab q) _ _ _ hZ ht (pre_eq t1 (by rw [List.length_cons]; exact z)).symm hAE rfl
    · have z1 : (nI ((lab q).length + 1) = nI (lab t).length) = False := eF z (by omega) (by omega)
      have tn : lab t ≠ c :: lab q := fun e => z (by rw [e, List.length_cons])
      have tl : (lab q).length + 1 < (lab t).length := by have := pre_len t1; rw [List.length_cons] at this; omega
      have t0 : t ≠ 0 := fun e => by rw [e, hS.1.2.1] at tl; simp at tl
      simp [c4, q3, v3, q5q, v5q, q5t, v5t, z1, nI_add, nI_8, nI_1, m9_0, m9_1, m9_4, m9_5, m9_6, m9_9, m9_12, m9_13, m9_16, m9_17, m9_19, m9_22, m9_23, m9_24, m9_27u, m9_28, m9_29, m9_30, m9_33, m9_34, m9_35, m9_38, m9_39, m9_40, m9_43, m9_44, m9_47, m9_48, m9_49, m9_52, m9_53, m9_56, m9_57, m9_58, m9_59, m9_60, m9_61, m9_64, m9_65, m9_66, m9_69, m9_70, m9_71, m9_72, m9_73, m9_74, m9_75, m9_76, m9_79, m9_80, m9_81, m9_84u, m9_85, m9_86, m9_89, m9_90, m9_93, m9_94, m9_95, m9_96, m9_99, m9_100, m9_103, m9_104, m9_106, m9_107, m9_108, m9_109, m9_110u, m9_112, m9_113, m9_116, m9_117, m9_118, m9_119, m9_120, m9_121, m9_124, m9_126, m9_127, m9_130, m9_131, m9_134, m9_135, m9_137, m9_138, m9_141, m9_142, m9_143, m9_144, m9_146, m9_147, m9_151, m9_152, m9_155, m9_156, m9_157, m9_160, m9_161, m9_164, m9_165, m9_166, m9_167, m9_170, m9_171, m9_174, m9_175, m9_176, m9_177, m9_178, m9_179, m9_182, m9_183, m9_184, m9_187, nb0, nb1, ou_a, Option.toList_some, Option.toList_none, List.nil_append, List.cons_append]
      have zT : ZT (N + 1) (up (fun v => (lab v).length) N (n + 1)) lk nx1 (up fe N n) cl := ⟨fun i hi => hz3 i hi, fun i hi => h.zt.z4 i (by omega), fun i hi => by rw [up_ne (by omega)]; exact h.zt.z5 i (by omega), fun i hi => by rw [up_ne (by omega)]; exact h.zt.z6 i (by omega), fun i hi => h.zt.z7 i (by omega)⟩
      refine spW (Z := c :: lab q) (t := t) hS hw hc (by omega) (by omega) ht hq1 pq rfl hZ t1 t2 hAE nxb hz3 hT3 zT (fun _ _ => rfl) (by rw [os_eq]) (fun nx2 s4 A4 hT4 hCE hz4 F4 k5 k6 => ?_)
      have hL4 := hT4.ln
      have p5 := in5 hL4 (i := N) (by omega)
      have p4 := in4 hL4 (i := N) (by omega)
      have u4 : getA (A4 4) (nI N) = nI (N + 1) := by rw [hT4.a4 N (by omega), up_eq, fH_s]
      have p5c := in5 hL4 (i := N + 1) (by omega)
      simp [p5, p4, u4, p5c, m9_0, m9_1, m9_4, m9_5, m9_6, m9_9, m9_12, m9_13, m9_16, m9_17, m9_19, m9_22, m9_23, m9_24, m9_27u, m9_28, m9_29, m9_30, m9_33, m9_34, m9_35, m9_38, m9_39, m9_40, m9_43, m9_44, m9_47, m9_48, m9_49, m9_52, m9_53, m9_56, m9_57, m9_58, m9_59, m9_60, m9_61, m9_64, m9_65, m9_66, m9_69, m9_70, m9_71, m9_72, m9_73, m9_74, m9_75, m9_76, m9_79, m9_80, m9_81, m9_84u, m9_85, m9_86, m9_89, m9_90, m9_93, m9_94, m9_95, m9_96, m9_99, m9_100, m9_103, m9_104, m9_106, m9_107, m9_108, m9_109, m9_110u, m9_112, m9_113, m9_116, m9_117, m9_118, m9_119, m9_120, m9_121, m9_124, m9_126, m9_127, m9_130, m9_131, m9_134, m9_135, m9_137, m9_138, m9_141, m9_142, m9_143, m9_144, m9_146, m9_147, m9_150, m9_151, m9_152, m9_155, m9_156, m9_157, m9_160, m9_161, m9_164, m9_165, m9_166, m9_167, m9_170, m9_171, m9_174, m9_175, m9_176, m9_177, m9_178, m9_179, m9_182, m9_183, m9_184, m9_187, nb0, nb1, ou_a, Option.toList_some, Option.toList_none, List.nil_append, List.cons_append]
      have e1 : ∀ v, up (up (fun v => (lab v).length) N (n + 1)) (N + 1) (up (fun v => (lab v).length) N (n + 1) q + 1) v = (up (up lab N (tx w (n + 1))) (N + 1) (c :: lab q) v).length := fun v => by
        by_cases e : v = N + 1
        · rw [e, up_eq, up_eq, List.length_cons, up_ne (by omega)]
        · rw [up_ne e, up_ne e]; exact lnN v
      have e2 : up fe N n t = fe t := up_ne (by omega)
      have e3 : ∀ v, up cl (N + 1) true v = up (up cl N false) (N + 1) true v := fun v => by
        by_cases e : v = N + 1
        · rw [e, up_eq, up_eq]
        · rw [up_ne e, up_ne e]; exact clN v
      rw [e2] at hT4
      refine hQ (N + 2) _ _ nx2 _ (up (up cl N false) (N + 1) true) N _ A4 ⟨SA.cx hS hw hZ ht t1 t2 tn (by intro q; cases q) hAE hCE, h.fe.cx ht t0 t1 t2, h.cn.cx hS hZ ht t1 t2 tn, ⟨hL4, hT4.a3, hT4.a4, CM_ext hT4.a5 (fun i _ => e1 i), hT4.a6, CM_ext hT4.a7 (fun i _ => e3 i), hT4.nb⟩, ⟨fun i hi => hz4 i hi, fun i hi => by rw [up_ne (by omega), up_ne (by omega), up_ne (by omega)]; exact h.zt.z4 i (by omega), fun i hi => ?_, fun i hi => by rw [up_ne (by omega), up_ne (by omega)]; exact h.zt.z6 i (by omega), fun i hi => by rw [up_ne (by omega), up_ne (by omega)]; exact h.zt.z7 i (by omega)⟩, fun k => ?_, fun k => ?_⟩ (FT_t F3' F4) (fun i hi => ?_) ?_ ?_ ?_
      · show (up (up lab N (tx w (n + 1))) (N + 1) (c :: lab q) i).length = 0
        rw [up_ne (by omega), up_ne (by omega)]; exact h.zt.z5 i (by omega)
      · omega
      · rcases Nat.lt_or_ge 2 n with q | q
        · have := h.b2 q; omega
        · have := h.b1 q; omega
      · simp only [ou_a]
        repeat rw [if_neg (by omega)]
        rw [k5 i (by omega), os_ne (by omega)]
      · simp only [ou_a]; simp; exact k6
      · simp only [ou_a]; simp
      · simp only [ou_a]; simp
end Ext2
def OB (al cap n N m : Nat) (w p : Nat → Nat) (lab : Nat → List Nat) (lk nx fe : Nat → Nat) (cl : Nat → Bool) (last : Nat) (s : Nat → Int32) (A : Nat → List Int32) : Prop := (SK n N w lab lk nx fe cl last A) ∧ (s 0 = nI al) ∧ (2 ≤ al ∧ al ≤ 8) ∧ (s 1 = nI cap) ∧ (cap ≤ 64) ∧ (s 2 = nI n) ∧ (n ≤ cap) ∧ (s 3 = nI m) ∧ (m ≤ 64) ∧ (∃ q, q ≤ 64 ∧ s 4 = nI q) ∧ (s 5 = nI N) ∧ (s 6 = nI last) ∧ (CM nI (A 0) w n) ∧ (∀ i, i < n → w i < al) ∧ (CM nI (A 1) p m) ∧ (∀ i, i < m → p i < al) ∧ (s 8 = 0 ∨ (s 8 = 1 ∧ CM nI (A 8) (Cn w lab n) N))
theorem OB.sk {al cap n N m : Nat} {w p : Nat → Nat} {lab : Nat → List Nat} {lk nx fe : Nat → Nat} {cl : Nat → Bool} {last : Nat} {s : Nat → Int32} {A : Nat → List Int32} (h : OB al cap n N m w p lab lk nx fe cl last s A) : SK n N w lab lk nx fe cl last A := h.1
theorem OB.s0 {al cap n N m : Nat} {w p : Nat → Nat} {lab : Nat → List Nat} {lk nx fe : Nat → Nat} {cl : Nat → Bool} {last : Nat} {s : Nat → Int32} {A : Nat → List Int32} (h : OB al cap n N m w p lab lk nx fe cl last s A) : s 0 = nI al := h.2.1
theorem OB.al {al cap n N m : Nat} {w p : Nat → Nat} {lab : Nat → List Nat} {lk nx fe : Nat → Nat} {cl : Nat → Bool} {last : Nat} {s : Nat → Int32} {A : Nat → List Int32} (h : OB al cap n N m w p lab lk nx fe cl last s A) : 2 ≤ al ∧ al ≤ 8 := h.2.2.1
theorem OB.s1 {al cap n N m : Nat} {w p : Nat → Nat} {lab : Nat → List Nat} {lk nx fe : Nat → Nat} {cl : Nat → Bool} {last : Nat} {s : Nat → Int32} {A : Nat → List Int32} (h : OB al cap n N m w p lab lk nx fe cl last s A) : s 1 = nI cap := h.2.2.2.1
theorem OB.cp {al cap n N m : Nat} {w p : Nat → Nat} {lab : Nat → List Nat} {lk nx fe : Nat → Nat} {cl : Nat → Bool} {last : Nat} {s : Nat → Int32} {A : Nat → List Int32} (h : OB al cap n N m w p lab lk nx fe cl last s A) : cap ≤ 64 := h.2.2.2.2.1
theorem OB.s2 {al cap n N m : Nat} {w p : Nat → Nat} {lab : Nat → List Nat} {lk nx fe : Nat → Nat} {cl : Nat → Bool} {last : Nat} {s : Nat → Int32} {A : Nat → List Int32} (h : OB al cap n N m w p lab lk nx fe cl last s A) : s 2 = nI n := h.2.2.2.2.2.1
theorem OB.nc {al cap n N m : Nat} {w p : Nat → Nat} {lab : Nat → List Nat} {lk nx fe : Nat → Nat} {cl : Nat → Bool} {last : Nat} {s : Nat → Int32} {A : Nat → List Int32} (h : OB al cap n N m w p lab lk nx fe cl last s A) : n ≤ cap := h.2.2.2.2.2.2.1
theorem OB.s3 {al cap n N m : Nat} {w p : Nat → Nat} {lab : Nat → List Nat} {lk nx fe : Nat → Nat} {cl : Nat → Bool} {last : Nat} {s : Nat → Int32} {A : Nat → List Int32} (h : OB al cap n N m w p lab lk nx fe cl last s A) : s 3 = nI m := h.2.2.2.2.2.2.2.1
theorem OB.m6 {al cap n N m : Nat} {w p : Nat → Nat} {lab : Nat → List Nat} {lk nx fe : Nat → Nat} {cl : Nat → Bool} {last : Nat} {s : Nat → Int32} {A : Nat → List Int32} (h : OB al cap n N m w p lab lk nx fe cl last s A) : m ≤ 64 := h.2.2.2.2.2.2.2.2.1
theorem OB.sq {al cap n N m : Nat} {w p : Nat → Nat} {lab : Nat → List Nat} {lk nx fe : Nat → Nat} {cl : Nat → Bool} {last : Nat} {s : Nat → Int32} {A : Nat → List Int32} (h : OB al cap n N m w p lab lk nx fe cl last s A) : ∃ q, q ≤ 64 ∧ s 4 = nI q := h.2.2.2.2.2.2.2.2.2.1
theorem OB.s5 {al cap n N m : Nat} {w p : Nat → Nat} {lab : Nat → List Nat} {lk nx fe : Nat → Nat} {cl : Nat → Bool} {last : Nat} {s : Nat → Int32} {A : Nat → List Int32} (h : OB al cap n N m w p lab lk nx fe cl last s A) : s 5 = nI N := h.2.2.2.2.2.2.2.2.2.2.1
theorem OB.s6 {al cap n N m : Nat} {w p : Nat → Nat} {lab : Nat → List Nat} {lk nx fe : Nat → Nat} {cl : Nat → Bool} {last : Nat} {s : Nat → Int32} {A : Nat → List Int32} (h : OB al cap n N m w p lab lk nx fe cl last s A) : s 6 = nI last := h.2.2.2.2.2.2.2.2.2.2.2.1
theorem OB.a0 {al cap n N m : Nat} {w p : Nat → Nat} {lab : Nat → List Nat} {lk nx fe : Nat → Nat} {cl : Nat → Bool} {last : Nat} {s : Nat → Int32} {A : Nat → List Int32} (h : OB al cap n N m w p lab lk nx fe cl last s A) : CM nI (A 0) w n := h.2.2.2.2.2.2.2.2.2.2.2.2.1
theorem OB.wl {al cap n N m : Nat} {w p : Nat → Nat} {lab : Nat → List Nat} {lk nx fe : Nat → Nat} {cl : Nat → Bool} {last : Nat} {s : Nat → Int32} {A : Nat → List Int32} (h : OB al cap n N m w p lab lk nx fe cl last s A) : ∀ i, i < n → w i < al := h.2.2.2.2.2.2.2.2.2.2.2.2.2.1
theorem OB.a1 {al cap n N m : Nat} {w p : Nat → Nat} {lab : Nat → List Nat} {lk nx fe : Nat → Nat} {cl : Nat → Bool} {last : Nat} {s : Nat → Int32} {A : Nat → List Int32} (h : OB al cap n N m w p lab lk nx fe cl last s A) : CM nI (A 1) p m := h.2.2.2.2.2.2.2.2.2.2.2.2.2.2.1
theorem OB.pl {al cap n N m : Nat} {w p : Nat → Nat} {lab : Nat → List Nat} {lk nx fe : Nat → Nat} {cl : Nat → Bool} {last : Nat} {s : Nat → Int32} {A : Nat → List Int32} (h : OB al cap n N m w p lab lk nx fe cl last s A) : ∀ i, i < m → p i < al := h.2.2.2.2.2.2.2.2.2.2.2.2.2.2.2.1
theorem OB.cv {al cap n N m : Nat} {w p : Nat → Nat} {lab : Nat → List Nat} {lk nx fe : Nat → Nat} {cl : Nat → Bool} {last : Nat} {s : Nat → Int32} {A : Nat → List Int32} (h : OB al cap n N m w p lab lk nx fe cl last s A) : s 8 = 0 ∨ (s 8 = 1 ∧ CM nI (A 8) (Cn w lab n) N) := h.2.2.2.2.2.2.2.2.2.2.2.2.2.2.2.2
def OX (al cap n m : Nat) (w p : Nat → Nat) (s : Nat → Int32) (A : Nat → List Int32) : Prop := ∃ (N : Nat) (lab : Nat → List Nat) (lk nx fe : Nat → Nat) (cl : Nat → Bool) (last : Nat), OB al cap n N m w p lab lk nx fe cl last s A
section Obj
variable {b : Nat} {pre post : AHeap} {Q : Option Value → AHeap → Prop} {s s' : Nat → Int32} {A A' : Nat → List Int32} {al cap n N m c last : Nat} {lk nx fe w p : Nat → Nat} {cl : Nat → Bool} {lab : Nat → List Nat}
theorem OX.ln (h : OX al cap n m w p s A) : LN A := by
  obtain ⟨N, lab, lk, nx, fe, cl, last, h⟩ := h
  exact h.sk.tb.ln
set_option maxRecDepth 1000000 in
set_option maxHeartbeats 20000000 in
theorem apW (h : OX al cap n m w p s A) (hc : c < al) (hq : ∀ (v : Int32) n' w' s' A', OX al cap n' m w' p s' A' → (n' = n + 1 ∨ n' = n) → Q (some (.int v)) (put (b + 1) pre s' A' post)) : M8 0 [.val (.ref (b + 1)), .val (.int (nI c))] [] (put (b + 1) pre s A post) Q := by
  obtain ⟨N, lab, lk, nx, fe, cl, last, h⟩ := id h
  have al8 := h.al
  have cp := h.cp
  have s0 := h.s0
  have s1 := h.s1
  have s2 := h.s2
  have c1 : (nI c < 0) = False := nnF (by omega)
  have c2 : (nI c < nI al) = True := lT hc (by omega)
  by_cases z : n < cap
  · have z1 : (nI n < nI cap) = True := lT z (by omega)
    have hL := h.sk.tb.ln
    have q0 := in0 hL (i := n) (by omega)
    have l0 := ln0 hL
    have ew : ∀ i, i < n → w i = up w n c i := fun i hi => by rw [up_ne (by omega)]
    simp [s0, s1, s2, c1, c2, z1, q0, nI_1, m8_0, m8_1, m8_4, m8_5, m8_6, m8_9, m8_12, m8_13, m8_14, m8_15, m8_18, m8_19, m8_22, m8_25, m8_26, m8_27, m8_28, m8_31, m8_32, m8_35, m8_36, m8_37, m8_38, m8_39, m8_42, m8_43, m8_44, m8_47, m8_48, m8_49, m8_52, m8_53, nb0, nb1, ou_a, Option.toList_some, Option.toList_none, List.nil_append, List.cons_append]
    have hK : SK n N (up w n c) lab lk nx fe cl last (ou A 0 (setA (A 0) (nI n) (nI c))) := by
      have k := h.sk
      exact ⟨SA_e ew k.sa, FE_e ew k.fe, CLN_e ew k.cn, k.tb.ar (LN_set hL) (fun j h3 _ => ou_ne (by omega)), k.zt, k.b1, k.b2⟩
    refine exW (c := c) hK up_eq (by omega) (by omega) ((os_ne (by decide)).trans h.s5) ((os_ne (by decide)).trans h.s6) (fun N' lab' lk' nx' fe' cl' last' s' A' k1 k2 k3 k4 k5 k6 => ?_)
    try simp [m8_0, m8_1, m8_4, m8_5, m8_6, m8_9, m8_12, m8_13, m8_14, m8_15, m8_18, m8_19, m8_22, m8_25, m8_26, m8_27, m8_28, m8_31, m8_32, m8_35, m8_36, m8_37, m8_38, m8_39, m8_42, m8_43, m8_44, m8_47, m8_48, m8_49, m8_52, m8_53, nb0, nb1, ou_a, Option.toList_some, Option.toList_none, List.nil_append, List.cons_append]
    refine hq _ (n + 1) (up w n c) s' A' ⟨N', lab', lk', nx', fe', cl', last', k1, ?_, al8, ?_, cp, ?_, by omega, ?_, h.m6, ?_, k4, k5, ?_, fun i hi => ?_, ?_, h.pl, Or.inl k6⟩ (Or.inl rfl)
    · rw [k3 0 (by decide), os_ne (by decide)]; exact s0
    · rw [k3 1 (by decide), os_ne (by decide)]; exact s1
    · rw [k3 2 (by decide), os_eq]
    · rw [k3 3 (by decide), os_ne (by decide)]; exact h.s3
    · obtain ⟨q, q1, q2⟩ := h.sq
      exact ⟨q, q1, by rw [k3 4 (by decide), os_ne (by decide)]; exact q2⟩
    · rw [k2 0 (by decide), ou_eq]; exact CM_push h.a0 rfl (by omega) (by omega)
    · rw [up_a]
      split
      · exact hc
      · exact h.wl i (by omega)
    · rw [k2 1 (by decide), ou_ne (by decide)]; exact h.a1
  · have z1 : (nI n < nI cap) = False := lF (by omega) (by have := h.nc; omega)
    simp [s0, s1, s2, c1, c2, z1, m8_0, m8_1, m8_4, m8_5, m8_6, m8_9, m8_12, m8_13, m8_14, m8_15, m8_18, m8_19, m8_22, m8_25, m8_26, m8_27, m8_28, m8_31, m8_32, m8_35, m8_36, m8_37, m8_38, m8_39, m8_42, m8_43, m8_44, m8_47, m8_48, m8_49, m8_52, m8_53, nb0, nb1, ou_a, Option.toList_some, Option.toList_none, List.nil_append, List.cons_append]
    exact hq _ n w s A ⟨N, lab, lk, nx, fe, cl, last, h⟩ (Or.inr rfl)
theorem ppW (h : OX al cap n m w p s A) (hc : c < al) (hm : m < 64) (hq : ∀ s' A', OX al cap n (m + 1) w (up p m c) s' A' → Q (some (.int 1)) (put (b + 1) pre s' A' post)) : M11 0 [.val (.ref (b + 1)), .val (.int (nI c))] [] (put (b + 1) pre s A post) Q := by
  obtain ⟨N, lab, lk, nx, fe, cl, last, h⟩ := h
  have al8 := h.al
  have s0 := h.s0
  have s3 := h.s3
  have c1 : (nI c < 0) = False := nnF (by omega)
  have c2 : (nI c < nI al) = True := lT hc (by omega)
  have c3 : (nI m < 64) = True := lT (c := 64) hm (by decide)
  have hL := h.sk.tb.ln
  have q1 := in1 hL (i := m) hm
  have l1 := ln1 hL
  simp [s0, s3, c1, c2, c3, q1, nI_1, m11_0, m11_1, m11_4, m11_5, m11_6, m11_9, m11_12, m11_13, m11_14, m11_15, m11_18, m11_20, m11_23, m11_24, m11_25, m11_26, m11_29, m11_30, m11_33, m11_34, m11_35, m11_36, m11_37, m11_40, m11_41, m11_42, m11_45, m11_46, nb0, nb1, ou_a, Option.toList_some, Option.toList_none, List.nil_append, List.cons_append]
  obtain ⟨q, qa, qb⟩ := h.sq
  refine hq _ _ ⟨N, lab, lk, nx, fe, cl, last, h.sk.ar (LN_set hL) (fun j h3 _ => ou_ne (by omega)), (os_ne (by decide)).trans s0, al8, (os_ne (by decide)).trans h.s1, h.cp, (os_ne (by decide)).trans h.s2, h.nc, os_eq, by omega, ⟨q, qa, (os_ne (by decide)).trans qb⟩, (os_ne (by decide)).trans h.s5, (os_ne (by decide)).trans h.s6, ?_, h.wl, ?_, fun i hi => ?_, ?_⟩
  · rw [ou_ne (by decide)]; exact h.a0
  · rw [ou_eq]; exact CM_push h.a1 rfl (by omega) (by omega)
  · rw [up_a]
    split
    · exact hc
    · exact h.pl i (by omega)
  · rw [os_ne (by decide), ou_ne (by decide)]; exact h.cv
theorem poW (h : OX al cap n m w p s A) (hc : c < al) (hq : ∀ (v : Int32) s' A', OX al cap n m w p s' A' → Q (some (.int v)) (put (b + 1) pre s' A' post)) : M17 0 [.val (.ref (b + 1)), .val (.int (nI c))] [] (put (b + 1) pre s A post) Q := by
  obtain ⟨N, lab, lk, nx, fe, cl, last, h⟩ := id h
  have al8 := h.al
  have s0 := h.s0
  obtain ⟨q, qa, qb⟩ := h.sq
  have c1 : (nI c < 0) = False := nnF (by omega)
  have c2 : (nI c < nI al) = True := lT hc (by omega)
  by_cases z : q < 64
  · have c3 : (nI q < 64) = True := lT (c := 64) z (by decide)
    have hL := h.sk.tb.ln
    have q2 := in2 hL (i := q) z
    simp [s0, qb, c1, c2, c3, q2, nI_1, m17_0, m17_1, m17_4, m17_5, m17_6, m17_9, m17_12, m17_13, m17_14, m17_15, m17_18, m17_20, m17_23, m17_24, m17_25, m17_26, m17_29, m17_30, m17_33, m17_34, m17_35, m17_36, m17_37, m17_40, m17_41, m17_42, m17_45, m17_46, nb0, nb1, ou_a, Option.toList_some, Option.toList_none, List.nil_append, List.cons_append]
    refine hq _ _ _ ⟨N, lab, lk, nx, fe, cl, last, h.sk.ar (LN_set hL) (fun j h3 _ => ou_ne (by omega)), (os_ne (by decide)).trans s0, al8, (os_ne (by decide)).trans h.s1, h.cp, (os_ne (by decide)).trans h.s2, h.nc, (os_ne (by decide)).trans h.s3, h.m6, ⟨q + 1, by omega, os_eq⟩, (os_ne (by decide)).trans h.s5, (os_ne (by decide)).trans h.s6, ?_, h.wl, ?_, h.pl, ?_⟩
    · rw [ou_ne (by decide)]; exact h.a0
    · rw [ou_ne (by decide)]; exact h.a1
    · rw [os_ne (by decide), ou_ne (by decide)]; exact h.cv
  · have c3 : (nI q < 64) = False := lF (c := 64) (by omega) (by omega)
    simp [s0, qb, c1, c2, c3, m17_0, m17_1, m17_4, m17_5, m17_6, m17_9, m17_12, m17_13, m17_14, m17_15, m17_18, m17_20, m17_23, m17_24, m17_25, m17_26, m17_29, m17_30, m17_33, m17_34, m17_35, m17_36, m17_37, m17_40, m17_41, m17_42, m17_45, m17_46, nb0, nb1, ou_a, Option.toList_some, Option.toList_none, List.nil_append, List.cons_append]
    exact hq _ s A ⟨N, lab, lk, nx, fe, cl, last, h⟩
theorem clO (h : OX al cap n m w p s A) : OX al cap n m w p (ou s 4 0) A := by
  obtain ⟨N, lab, lk, nx, fe, cl, last, h⟩ := h
  exact ⟨N, lab, lk, nx, fe, cl, last, h.sk, (os_ne (by decide)).trans h.s0, h.al, (os_ne (by decide)).trans h.s1, h.cp, (os_ne (by decide)).trans h.s2, h.nc, (os_ne (by decide)).trans h.s3, h.m6, ⟨0, by omega, os_eq⟩, (os_ne (by decide)).trans h.s5, (os_ne (by decide)).trans h.s6, h.a0, h.wl, h.a1, h.pl, by rw [os_ne (by decide)]; exact h.cv⟩
theorem clP (h : OX al cap n m w p s A) : OX al cap n 0 w p (ou s 3 0) A := by
  obtain ⟨N, lab, lk, nx, fe, cl, last, h⟩ := h
  obtain ⟨q, qa, qb⟩ := h.sq
  exact ⟨N, lab, lk, nx, fe, cl, last, h.sk, (os_ne (by decide)).trans h.s0, h.al, (os_ne (by decide)).trans h.s1, h.cp, (os_ne (by decide)).trans h.s2, h.nc, os_eq, by omega, ⟨q, qa, (os_ne (by decide)).trans qb⟩, (os_ne (by decide)).trans h.s5, (os_ne (by decide)).trans h.s6, h.a0, h.wl, fun _ h => absurd h (by omega), fun _ h => absurd h (by omega), by rw [os_ne (by decide)]; exact h.cv⟩
theorem raW (hL : LN A) (s0 : s 0 = nI al) (ha : 2 ≤ al ∧ al ≤ 8) (s1 : s 1 = nI cap) (hc : cap ≤ 64) (s2 : s 2 = 0) (s3 : s 3 = 0) (s4 : s 4 = 0) (hq : ∀ s' A', OX al cap 0 0 (fun _ => 0) (fun _ => 0) s' A' → Q none (put (b + 1) pre s' A' post)) : M1 0 [.val (.ref (b + 1))] [] (put (b + 1) pre s A post) Q := by
  simp [m1_0, m1_1, m1_2, m1_5, m1_6, m1_7, m1_10, m1_11, m1_12, m1_15, m1_16, m1_17, m1_20, m1_21, m1_22, m1_25, nb0, nb1, ou_a, Option.toList_some, Option.toList_none, List.nil_append, List.cons_append]
  refine csW (N := 0) (ln := fun _ => 0) (lk := fun _ => 0) (nx := fun _ => 0) (fe := fun _ => 0) (cl := fun _ => false) ⟨hL, fun _ h => absurd h (by omega), fun _ h => absurd h (by omega), fun _ h => absurd h (by omega), fun _ h => absurd h (by omega), fun _ h => absurd h (by omega), by omega⟩ ⟨fun _ _ => rfl, fun _ _ => rfl, fun _ _ => rfl, fun _ _ => rfl, fun _ _ => rfl⟩ (by omega) (fun A1 k1 k2 => ?_)
  try simp [m1_0, m1_1, m1_2, m1_5, m1_6, m1_7, m1_10, m1_11, m1_12, m1_15, m1_16, m1_17, m1_20, m1_21, m1_22, m1_25, nb0, nb1, ou_a, Option.toList_some, Option.toList_none, List.nil_append, List.cons_append]
  refine hq _ A1 ⟨1, fun _ => [], fun _ => 0, fun _ => 0, fun _ => 0, fun _ => false, 0, ⟨SA_0, fun v hv h => absurd (by omega) h, fun v hv => ⟨fun q => absurd (by omega) q.1, fun ⟨e, a, b, _⟩ => by omega⟩, k1, ⟨fun _ _ => rfl, fun _ _ => rfl, fun _ _ => rfl, fun _ _ => rfl, fun _ _ => rfl⟩, fun _ => by omega, fun h => absurd h (by omega)⟩, ?_, ha, ?_, hc, ?_, by omega, ?_, by omega, ⟨0, by omega, ?_⟩, ?_, ?_, fun _ h => absurd h (by omega), fun _ h => absurd h (by omega), fun _ h => absurd h (by omega), fun _ h => absurd h (by omega), Or.inl ?_⟩
  · simp only [ou_a]; simp; exact s0
  · simp only [ou_a]; simp; exact s1
  · simp only [ou_a]; simp; exact s2
  · simp only [ou_a]; simp; exact s3
  · simp only [ou_a]; simp; exact s4
  · simp only [ou_a]; simp; rfl
  · simp only [ou_a]; simp; rfl
  · simp only [ou_a]; simp
theorem reW (h : OX al cap n m w p s A) (hq : ∀ s' A', OX al cap 0 0 (fun _ => 0) (fun _ => 0) s' A' → Q none (put (b + 1) pre s' A' post)) : M20 0 [.val (.ref (b + 1))] [] (put (b + 1) pre s A post) Q := by
  obtain ⟨N, lab, lk, nx, fe, cl, last, h⟩ := h
  simp [m20_0, m20_1, m20_2, m20_5, m20_6, m20_7, m20_10, m20_11, m20_12, m20_15, m20_16, m20_19, nb0, nb1, ou_a, Option.toList_some, Option.toList_none, List.nil_append, List.cons_append]
  refine raW h.sk.tb.ln ?_ h.al ?_ h.cp ?_ ?_ ?_ (fun s' A' k => ?_)
  · rw [os_ne (by decide), os_ne (by decide), os_ne (by decide)]; exact h.s0
  · rw [os_ne (by decide), os_ne (by decide), os_ne (by decide)]; exact h.s1
  · rw [os_ne (by decide), os_ne (by decide), os_eq]
  · rw [os_ne (by decide), os_eq]
  · rw [os_eq]
  · try simp [m20_0, m20_1, m20_2, m20_5, m20_6, m20_7, m20_10, m20_11, m20_12, m20_15, m20_16, m20_19, nb0, nb1, ou_a, Option.toList_some, Option.toList_none, List.nil_append, List.cons_append]
    exact hq s' A' k
set_option maxRecDepth 1000000 in
set_option maxHeartbeats 20000000 in
theorem wpL (h : OB al cap n N m w p lab lk nx fe cl last s A) (hN : N ≤ 128) (h1 : ∀ v, v < N → tx p m <+: lab v → OLE w n (tx p m) (lab v) → Sb w n (tx p m) → Q (some (.int (nI v))) (put (b + 1) pre s A post)) (h0 : ¬ Sb w n (tx p m) → Q (some (.int (-1))) (put (b + 1) pre s A post)) : ∀ (r j v : Nat) (l3 l4 : Slot), j + r = m → v < N → tx p j <+: lab v → OLE w n (tx p j) (lab v) → Sb w n (tx p j) → okS l3 → okS l4 → M13 4 [.val (.ref (b + 1)), .val (.int (nI v)), .val (.int (nI j)), l3, l4] [] (put (b + 1) pre s A post) Q := by
  have s3 := h.s3
  have m6 := h.m6
  have al8 := h.al
  have hS := h.sk.sa
  have tb := h.sk.tb
  intro r
  induction r with
  | zero =>
    intro j v l3 l4 e hv k1 k2 k3 o3 o4
    obtain rfl : j = m := by omega
    have c1 : (nI j < nI j) = False := lF (by omega) (by omega)
    rw [m13_4]
    simp [s3, c1, m13_0, m13_1u, m13_2, m13_3u, m13_5, m13_6, m13_9, m13_12, m13_13, m13_15, m13_18, m13_19, m13_22, m13_23, m13_24u, m13_24i, m13_24r, m13_24g, m13_25, m13_26, m13_29, m13_30, m13_32, m13_35, m13_36, m13_37, m13_38, m13_41, m13_42, m13_44, m13_45, m13_46, m13_47, m13_48u, m13_48i, m13_48r, m13_48g, m13_50, m13_52, m13_55, m13_56, m13_57, m13_59i, m13_60, m13_63, m13_66, m13_67, nb0, nb1, ou_a, Option.toList_some, Option.toList_none, List.nil_append, List.cons_append]
    exact h1 v hv k1 k2 k3
  | succ r ih =>
    intro j v l3 l4 e hv k1 k2 k3 o3 o4
    have c1 : (nI j < nI m) = True := lT (by omega) (by omega)
    have c2 : (nI j < 64) = True := lT (c := 64) (by omega) (by decide)
    have q1 := in1 tb.ln (i := j) (by omega)
    have v1 := h.a1 j (by omega)
    have pj := h.pl j (by omega)
    have c3 : (nI (p j) < 0) = False := nnF (by omega)
    have c4 : (nI (p j) < 8) = True := lT (c := 8) (by omega) (by decide)
    have q3 := in3 tb.ln (i := v * 8 + p j) (by omega)
    have v3 := tb.a3 (v * 8 + p j) (by omega)
    have rd := hS.rd (c := p j) hv (by omega) k1 k2
    rw [m13_4]
    rcases rd with ⟨x1, x2⟩ | ⟨u, hu, x1, x2, x3, x4⟩
    · have z1 : (fH (nx (v * 8 + p j)) < 0) = True := by rw [x1]; exact fH_n
      simp [s3, c1, c2, q1, v1, c3, c4, q3, v3, z1, o3, o4, nI_add, nI_8, m13_0, m13_1u, m13_2, m13_3u, m13_5, m13_6, m13_9, m13_12, m13_13, m13_15, m13_18, m13_19, m13_22, m13_23, m13_24u, m13_24i, m13_24r, m13_24g, m13_25, m13_26, m13_29, m13_30, m13_32, m13_35, m13_36, m13_37, m13_38, m13_41, m13_42, m13_44, m13_45, m13_46, m13_47, m13_48u, m13_48i, m13_48r, m13_48g, m13_50, m13_52, m13_55, m13_56, m13_57, m13_59i, m13_60, m13_63, m13_66, m13_67, nb0, nb1, ou_a, Option.toList_some, Option.toList_none, List.nil_append, List.cons_append]
      refine h0 (fun s => x2 ?_)
      -- what holds of the whole holds of the longer part
      have suf : ∀ k, j + 1 + k ≤ m → Sb w n (tx p (j + 1 + k)) → Sb w n (tx p (j + 1)) := by
        intro k
        induction k with
        | zero => intro _ s; exact s
        | succ k ihk =>
          intro hk s
          refine ihk (by omega) ?_
          obtain ⟨e, he⟩ := s
          have he : Oc w n (p (j + 1 + k) :: tx p (j + 1 + k)) e := he
          cases e with
          | zero => exact absurd he Oc_0
          | succ e => exact ⟨e, by have := he.1; omega, (Oc_c.mp he).2.2⟩
      have := suf (m - (j + 1)) (by omega) (by rw [show j + 1 + (m - (j + 1)) = m by omega]; exact s)
      exact this
    · rw [x1, fH_s] at v3
      have z1 : (nI u < 0) = False := nnF (by omega)
      simp [s3, c1, c2, q1, v1, c3, c4, q3, v3, z1, o3, o4, nI_add, nI_8, nI_1, m13_0, m13_1u, m13_2, m13_3u, m13_5, m13_6, m13_9, m13_12, m13_13, m13_15, m13_18, m13_19, m13_22, m13_23, m13_24u, m13_24i, m13_24r, m13_24g, m13_25, m13_26, m13_29, m13_30, m13_32, m13_35, m13_36, m13_37, m13_38, m13_41, m13_42, m13_44, m13_45, m13_46, m13_47, m13_48u, m13_48i, m13_48r, m13_48g, m13_50, m13_52, m13_55, m13_56, m13_57, m13_59i, m13_60, m13_63, m13_66, m13_67, nb0, nb1, ou_a, Option.toList_some, Option.toList_none, List.nil_append, List.cons_append]
      exact ih (j + 1) u _ _ (by omega) hu x3 x4 x2 (okS_n _) (okS_n _)
theorem wpW (h : OB al cap n N m w p lab lk nx fe cl last s A) (h1 : ∀ v, v < N → tx p m <+: lab v → OLE w n (tx p m) (lab v) → Sb w n (tx p m) → Q (some (.int (nI v))) (put (b + 1) pre s A post)) (h0 : ¬ Sb w n (tx p m) → Q (some (.int (-1))) (put (b + 1) pre s A post)) : M13 0 [.val (.ref (b + 1)), .unset, .unset, .unset, .unset] [] (put (b + 1) pre s A post) Q := by
  have hS := h.sk.sa
  simp [m13_0, m13_1u, m13_2, m13_3u, m13_5, m13_6, m13_9, m13_12, m13_13, m13_15, m13_18, m13_19, m13_22, m13_23, m13_24u, m13_24i, m13_24r, m13_24g, m13_25, m13_26, m13_29, m13_30, m13_32, m13_35, m13_36, m13_37, m13_38, m13_41, m13_42, m13_44, m13_45, m13_46, m13_47, m13_48u, m13_48i, m13_48r, m13_48g, m13_50, m13_52, m13_55, m13_56, m13_57, m13_59i, m13_60, m13_63, m13_66, m13_67, nb0, nb1, ou_a, Option.toList_some, Option.toList_none, List.nil_append, List.cons_append]
  exact wpL h h.sk.tb.nb h1 h0 m 0 0 _ _ (by omega) hS.1.1 (by rw [hS.1.2.1]; exact List.prefix_refl _) (by rw [hS.1.2.1]; exact fun _ q => q) ⟨0, Oc_nil (by omega)⟩ okS_u okS_u
end Obj
theorem nI_m1 (v : Nat) : nI v + -1 = fH v := by unfold fH; rw [Int32.sub_eq_add_neg]
theorem cB_sum {p q s : Nat → Bool} : ∀ k, (∀ i, i < k → (s i = true ↔ p i = true ∨ q i = true)) → (∀ i, i < k → p i = true → q i = true → False) → cB s k = cB p k + cB q k := by
  intro k
  induction k with
  | zero => intro _ _; rfl
  | succ k ih =>
    intro h1 h2
    rw [cB, cB, cB, ih (fun i hi => h1 i (by omega)) (fun i hi => h2 i (by omega))]
    have a := h1 k (by omega)
    have b := h2 k (by omega)
    by_cases x : p k = true
    · have y : ¬ q k = true := fun y => b x y
      rw [if_pos (a.mpr (Or.inl x)), if_pos x, if_neg y]
      omega
    · by_cases y : q k = true
      · rw [if_pos (a.mpr (Or.inr y)), if_neg x, if_pos y]
        omega
      · have no : ¬ s k = true := fun z => by
          rcases a.mp z with z | z
          · exact x z
          · exact y z
        rw [if_neg no, if_neg x, if_neg y]
        omega
section Srt
variable {b : Nat} {pre post : AHeap} {Q : Option Value → AHeap → Prop} {s : Nat → Int32} {A A' : Nat → List Int32} {N : Nat} {ln : Nat → Nat}
def FS (A A' : Nat → List Int32) : Prop := ∀ k, k < 9 → A' k = A k
theorem FS_r (A : Nat → List Int32) : FS A A := fun _ _ => rfl
theorem FS_t {A A' A'' : Nat → List Int32} (h : FS A A') (h' : FS A' A'') : FS A A'' := fun k a => (h' k a).trans (h k a)
theorem FS_o {A : Nat → List Int32} {j : Nat} {l : List Int32} (h : 9 ≤ j) : FS A (ou A j l) := fun k a => by rw [ou_a, if_neg (by omega)]
abbrev cEq (ln : Nat → Nat) (v l : Nat) : Nat := cB (fun u => decide (ln u = l)) v
abbrev cLt (ln : Nat → Nat) (N l : Nat) : Nat := cB (fun u => decide (ln u < l)) N
theorem cLe (ln : Nat → Nat) (N l : Nat) : cLt ln N (l + 1) = cLt ln N l + cEq ln N l := cB_sum N (fun i _ => by simp only [decide_eq_true_eq]; omega) (fun i _ => by simp only [decide_eq_true_eq]; omega)
theorem cLt_0 (ln : Nat → Nat) : ∀ N, cLt ln N 0 = 0 := by
  intro N
  induction N with
  | zero => rfl
  | succ N ih =>
    show cB _ N + _ = 0
    rw [if_neg (by simp)]
    exact ih
set_option maxRecDepth 1000000 in
set_option maxHeartbeats 20000000 in
theorem so4 (s5 : s 5 = nI N) (hN : N ≤ 128) (hl : ∀ v, v < N → ln v ≤ 64) : ∀ (r : Nat) (od : Nat → Int32) (l2 l3 : Slot) (A : Nat → List Int32), r ≤ N → LN A → CM nI (A 5) ln N → CM nI (A 10) (fun l => cLt ln N l + cEq ln r l) 65 → CM (fun x : Int32 => x) (A 9) od 128 → (∀ u, r ≤ u → u < N → od (pos N ln u) = nI u) → okS l2 → okS l3 →
    (∀ od' A', LN A' → FS A A' → CM (fun x : Int32 => x) (A' 9) od' 128 → (∀ u, u < N → od' (pos N ln u) = nI u) → Q none (put (b + 1) pre s A' post)) → M15 97 [.val (.ref (b + 1)), .val (.int (fH r)), l2, l3] [] (put (b + 1) pre s A post) Q := by
  intro r
  induction r with
  | zero =>
    intro od l2 l3 A _ hL h5 h10 h9 hod o2 o3 hq
    rw [m15_97]
    simp [fH_n, m15_0, m15_1u, m15_3, m15_5, m15_8, m15_9, m15_12, m15_13, m15_14, m15_15, m15_18, m15_21, m15_22i, m15_24, m15_25, m15_28, m15_31, m15_32, m15_35, m15_38, m15_39, m15_42, m15_43, m15_46, m15_47, m15_48, m15_49, m15_50, m15_51, m15_52, m15_53, m15_56, m15_59, m15_60i, m15_62, m15_64, m15_67, m15_68, m15_71, m15_72, m15_73, m15_74, m15_75, m15_78, m15_79, m15_80, m15_81, m15_82, m15_83, m15_84, m15_87, m15_90, m15_91, m15_94, m15_95, m15_96i, m15_98, m15_101, m15_102, m15_105, m15_106, m15_107u, m15_107i, m15_107r, m15_107g, m15_108, m15_109, m15_112, m15_113, m15_114, m15_115, m15_116, m15_117, m15_118, m15_119, m15_122, m15_123, m15_124u, m15_124i, m15_124r, m15_124g, m15_125, m15_126, m15_129, m15_130, m15_133, m15_136, m15_137, m15_140, m15_141, m15_142, m15_143, m15_146, m15_149, nb0, nb1, ou_a, Option.toList_some, Option.toList_none, List.nil_append, List.cons_append]
    exact hq od A hL (FS_r _) h9 (fun u hu => hod u (by omega) hu)
  | succ v ih =>
    intro od l2 l3 A hv hL h5 h10 h9 hod o2 o3 hq
    have lv := hl v (by omega)
    have c1 : (nI v < 0) = False := nnF (by omega)
    have q5 := in5 hL (i := v) (by omega)
    have v5 := h5 v (by omega)
    have q10 := in10 hL (i := ln v) (by omega)
    have pv : cLt ln N (ln v) + cEq ln (v + 1) (ln v) = pos N ln v + 1 := by
      show _ + (cB (fun u => decide (ln u = ln v)) v + (if decide (ln v = ln v) = true then 1 else 0)) = _
      rw [if_pos (by simp)]
      have e : cLt ln N (ln v) = cB (fun u => decide (ln u < ln v)) N := rfl
      unfold pos
      omega
    have v10 : getA (A 10) (nI (ln v)) = nI (pos N ln v + 1) := by rw [h10 (ln v) (by omega)]; exact congrArg nI pv
    have pl := pos_lt (ln := ln) (show v < N by omega)
    have e1 : nI (pos N ln v + 1) - 1 = nI (pos N ln v) := nI_sub (c := 1) (by omega)
    have l10 := ln10 hL
    have l9 := ln9 hL
    have w10 : getA (setA (A 10) (nI (ln v)) (nI (pos N ln v))) (nI (ln v)) = nI (pos N ln v) := by rw [cf_setB (by omega) (by omega) (by omega), if_pos rfl]
    have r10 : inB (nI (ln v)) (setA (A 10) (nI (ln v)) (nI (pos N ln v))) := nI_inB (by rw [setA_len]; omega) (by rw [setA_len]; omega)
    have c2 : (nI (pos N ln v) < 0) = False := nnF (by omega)
    have c3 : (nI (pos N ln v) < 128) = True := lT (c := 128) (by omega) (by decide)
    have q9 := in9 hL (i := pos N ln v) (by omega)
    rw [fH_s]
    rw [m15_97]
    simp [c1, q5, v5, q10, v10, e1, w10, r10, c2, c3, q9, o2, o3, nI_m1, m15_0, m15_1u, m15_3, m15_5, m15_8, m15_9, m15_12, m15_13, m15_14, m15_15, m15_18, m15_21, m15_22i, m15_24, m15_25, m15_28, m15_31, m15_32, m15_35, m15_38, m15_39, m15_42, m15_43, m15_46, m15_47, m15_48, m15_49, m15_50, m15_51, m15_52, m15_53, m15_56, m15_59, m15_60i, m15_62, m15_64, m15_67, m15_68, m15_71, m15_72, m15_73, m15_74, m15_75, m15_78, m15_79, m15_80, m15_81, m15_82, m15_83, m15_84, m15_87, m15_90, m15_91, m15_94, m15_95, m15_96i, m15_98, m15_101, m15_102, m15_105, m15_106, m15_107u, m15_107i, m15_107r, m15_107g, m15_108, m15_109, m15_112, m15_113, m15_114, m15_115, m15_116, m15_117, m15_118, m15_119, m15_122, m15_123, m15_124u, m15_124i, m15_124r, m15_124g, m15_125, m15_126, m15_129, m15_130, m15_133, m15_136, m15_137, m15_140, m15_141, m15_142, m15_143, m15_146, m15_149, nb0, nb1, ou_a, Option.toList_some, Option.toList_none, List.nil_append, List.cons_append]
    refine ih (up od (pos N ln v) (nI v)) _ _ _ (by omega) (LN_ou (LN_ou hL (by rw [setA_len]; exact hL _)) (by rw [setA_len]; exact hL _)) ?_ ?_ ?_ (fun u hu hN' => ?_) (okS_n _) (okS_n _) (fun od' A' k1 k2 k3 k4 => hq od' A' k1 (FS_t (FS_t (FS_o (by decide)) (FS_o (by decide))) k2) k3 k4)
    · (repeat rw [ou_ne (by decide)]); exact h5
    · rw [ou_ne (by decide), ou_eq]
      refine CM_ext (CM_set (w := pos N ln v) h10 rfl (by omega) (by omega) (by omega)) (fun l hl' => ?_)
      rw [up_a]
      by_cases e : l = ln v
      · rw [if_pos e, e]; rfl
      · rw [if_neg e]
        show cLt ln N l + (cB (fun u => decide (ln u = l)) v + (if decide (ln v = l) = true then 1 else 0)) = _
        rw [if_neg (by simp; exact fun q => e q.symm)]
        rfl
    · rw [ou_eq]; exact CM_set h9 rfl (by omega) (by omega) (by omega)
    · by_cases e : u = v
      · rw [e, up_eq]
      · rw [up_ne (fun q => e (pos_inj hN' (by omega) q))]; exact hod u (by omega) hN'
theorem so3 (s5 : s 5 = nI N) (hN : N ≤ 128) (hl : ∀ v, v < N → ln v ≤ 64) {od : Nat → Int32} : ∀ (r i : Nat) (A : Nat → List Int32), i + r = 65 → 1 ≤ i → LN A → CM nI (A 5) ln N → CM nI (A 10) (fun l => if l < i then cLt ln N (l + 1) else cEq ln N l) 65 → CM (fun x : Int32 => x) (A 9) od 128 →
    (∀ od' A', LN A' → FS A A' → CM (fun x : Int32 => x) (A' 9) od' 128 → (∀ u, u < N → od' (pos N ln u) = nI u) → Q none (put (b + 1) pre s A' post)) → M15 61 [.val (.ref (b + 1)), .val (.int (nI i)), .unset, .unset] [] (put (b + 1) pre s A post) Q := by
  intro r
  induction r with
  | zero =>
    intro i A e _ hL h5 h10 h9 hq
    obtain rfl : i = 65 := by omega
    have c1 : (nI 65 < 65) = False := lF (c := 65) (by omega) (by omega)
    have eN : nI N - 1 = fH N := rfl
    rw [m15_61]
    simp [c1, s5, eN, m15_0, m15_1u, m15_3, m15_5, m15_8, m15_9, m15_12, m15_13, m15_14, m15_15, m15_18, m15_21, m15_22i, m15_24, m15_25, m15_28, m15_31, m15_32, m15_35, m15_38, m15_39, m15_42, m15_43, m15_46, m15_47, m15_48, m15_49, m15_50, m15_51, m15_52, m15_53, m15_56, m15_59, m15_60i, m15_62, m15_64, m15_67, m15_68, m15_71, m15_72, m15_73, m15_74, m15_75, m15_78, m15_79, m15_80, m15_81, m15_82, m15_83, m15_84, m15_87, m15_90, m15_91, m15_94, m15_95, m15_96i, m15_98, m15_101, m15_102, m15_105, m15_106, m15_107u, m15_107i, m15_107r, m15_107g, m15_108, m15_109, m15_112, m15_113, m15_114, m15_115, m15_116, m15_117, m15_118, m15_119, m15_122, m15_123, m15_124u, m15_124i, m15_124r, m15_124g, m15_125, m15_126, m15_129, m15_130, m15_133, m15_136, m15_137, m15_140, m15_141, m15_142, m15_143, m15_146, m15_149, nb0, nb1, ou_a, Option.toList_some, Option.toList_none, List.nil_append, List.cons_append]
    refine so4 s5 hN hl N od _ _ A (Nat.le_refl _) hL h5 (CM_ext h10 (fun l hl' => ?_)) h9 (fun u hu hu' => by omega) okS_u okS_u hq
    rw [if_pos hl']
    exact cLe ln N l
  | succ r ih =>
    intro i A e i1 hL h5 h10 h9 hq
    have c1 : (nI i < 65) = True := lT (c := 65) (by omega) (by omega)
    have q10 := in10 hL (i := i) (by omega)
    have q10' := in10 hL (i := i - 1) (by omega)
    have v10 : getA (A 10) (nI i) = nI (cEq ln N i) := (h10 i (by omega)).trans (congrArg nI (if_neg (by omega)))
    have v10' : getA (A 10) (nI (i - 1)) = nI (cLt ln N i) := (h10 (i - 1) (by omega)).trans (congrArg nI ((if_pos (by omega)).trans (by rw [show i - 1 + 1 = i by omega])))
    have e1 : nI i - 1 = nI (i - 1) := nI_sub (c := 1) i1
    have l10 := ln10 hL
    have es : cEq ln N i + cLt ln N i = cLt ln N (i + 1) := by rw [cLe]; omega
    rw [m15_61]
    simp [c1, q10, v10, e1, q10', v10', nI_add, nI_1, m15_0, m15_1u, m15_3, m15_5, m15_8, m15_9, m15_12, m15_13, m15_14, m15_15, m15_18, m15_21, m15_22i, m15_24, m15_25, m15_28, m15_31, m15_32, m15_35, m15_38, m15_39, m15_42, m15_43, m15_46, m15_47, m15_48, m15_49, m15_50, m15_51, m15_52, m15_53, m15_56, m15_59, m15_60i, m15_62, m15_64, m15_67, m15_68, m15_71, m15_72, m15_73, m15_74, m15_75, m15_78, m15_79, m15_80, m15_81, m15_82, m15_83, m15_84, m15_87, m15_90, m15_91, m15_94, m15_95, m15_96i, m15_98, m15_101, m15_102, m15_105, m15_106, m15_107u, m15_107i, m15_107r, m15_107g, m15_108, m15_109, m15_112, m15_113, m15_114, m15_115, m15_116, m15_117, m15_118, m15_119, m15_122, m15_123, m15_124u, m15_124i, m15_124r, m15_124g, m15_125, m15_126, m15_129, m15_130, m15_133, m15_136, m15_137, m15_140, m15_141, m15_142, m15_143, m15_146, m15_149, nb0, nb1, ou_a, Option.toList_some, Option.toList_none, List.nil_append, List.cons_append]
    refine ih (i + 1) _ (by omega) (by omega) (LN_set hL) ?_ ?_ ?_ (fun od' A' k1 k2 k3 k4 => hq od' A' k1 (FS_t (FS_o (by decide)) k2) k3 k4)
    · rw [ou_ne (by decide)]; exact h5
    · rw [ou_eq]
      refine CM_ext (CM_set (w := cEq ln N i + cLt ln N i) h10 rfl (by omega) (by omega) (by omega)) (fun l hl' => ?_)
      rw [up_a]
      by_cases q : l = i
      · rw [if_pos q, q, if_pos (by omega)]; exact es
      · rw [if_neg q]
        by_cases y : l < i
        · rw [if_pos y, if_pos (by omega)]
        · rw [if_neg y, if_neg (by omega)]
    · rw [ou_ne (by decide)]; exact h9
theorem so2 (s5 : s 5 = nI N) (hN : N ≤ 128) (hl : ∀ v, v < N → ln v ≤ 64) {od : Nat → Int32} : ∀ (r v : Nat) (A : Nat → List Int32), v + r = N → LN A → CM nI (A 5) ln N → CM nI (A 10) (fun l => cEq ln v l) 65 → CM (fun x : Int32 => x) (A 9) od 128 →
    (∀ od' A', LN A' → FS A A' → CM (fun x : Int32 => x) (A' 9) od' 128 → (∀ u, u < N → od' (pos N ln u) = nI u) → Q none (put (b + 1) pre s A' post)) → M15 23 [.val (.ref (b + 1)), .val (.int (nI v)), .unset, .unset] [] (put (b + 1) pre s A post) Q := by
  intro r
  induction r with
  | zero =>
    intro v A e hL h5 h10 h9 hq
    obtain rfl : v = N := by omega
    have c1 : (nI v < nI v) = False := lF (by omega) (by omega)
    rw [m15_23]
    simp [s5, c1, m15_0, m15_1u, m15_3, m15_5, m15_8, m15_9, m15_12, m15_13, m15_14, m15_15, m15_18, m15_21, m15_22i, m15_24, m15_25, m15_28, m15_31, m15_32, m15_35, m15_38, m15_39, m15_42, m15_43, m15_46, m15_47, m15_48, m15_49, m15_50, m15_51, m15_52, m15_53, m15_56, m15_59, m15_60i, m15_62, m15_64, m15_67, m15_68, m15_71, m15_72, m15_73, m15_74, m15_75, m15_78, m15_79, m15_80, m15_81, m15_82, m15_83, m15_84, m15_87, m15_90, m15_91, m15_94, m15_95, m15_96i, m15_98, m15_101, m15_102, m15_105, m15_106, m15_107u, m15_107i, m15_107r, m15_107g, m15_108, m15_109, m15_112, m15_113, m15_114, m15_115, m15_116, m15_117, m15_118, m15_119, m15_122, m15_123, m15_124u, m15_124i, m15_124r, m15_124g, m15_125, m15_126, m15_129, m15_130, m15_133, m15_136, m15_137, m15_140, m15_141, m15_142, m15_143, m15_146, m15_149, nb0, nb1, ou_a, Option.toList_some, Option.toList_none, List.nil_append, List.cons_append]
    refine so3 (od := od) s5 hN hl 64 1 A (by omega) (by omega) hL h5 (CM_ext h10 (fun l hl' => ?_)) h9 hq
    by_cases q : l < 1
    · rw [if_pos q, cLe, show l = 0 by omega, cLt_0]; omega
    · rw [if_neg q]
  | succ r ih =>
    intro v A e hL h5 h10 h9 hq
    have lv := hl v (by omega)
    have c1 : (nI v < nI N) = True := lT (by omega) (by omega)
    have c2 : (nI v < 128) = True := lT (c := 128) (by omega) (by decide)
    have q5 := in5 hL (i := v) (by omega)
    have v5 := h5 v (by omega)
    have q10 := in10 hL (i := ln v) (by omega)
    have v10 := h10 (ln v) (by omega)
    have l10 := ln10 hL
    rw [m15_23]
    simp [s5, c1, c2, q5, v5, q10, v10, nI_1, m15_0, m15_1u, m15_3, m15_5, m15_8, m15_9, m15_12, m15_13, m15_14, m15_15, m15_18, m15_21, m15_22i, m15_24, m15_25, m15_28, m15_31, m15_32, m15_35, m15_38, m15_39, m15_42, m15_43, m15_46, m15_47, m15_48, m15_49, m15_50, m15_51, m15_52, m15_53, m15_56, m15_59, m15_60i, m15_62, m15_64, m15_67, m15_68, m15_71, m15_72, m15_73, m15_74, m15_75, m15_78, m15_79, m15_80, m15_81, m15_82, m15_83, m15_84, m15_87, m15_90, m15_91, m15_94, m15_95, m15_96i, m15_98, m15_101, m15_102, m15_105, m15_106, m15_107u, m15_107i, m15_107r, m15_107g, m15_108, m15_109, m15_112, m15_113, m15_114, m15_115, m15_116, m15_117, m15_118, m15_119, m15_122, m15_123, m15_124u, m15_124i, m15_124r, m15_124g, m15_125, m15_126, m15_129, m15_130, m15_133, m15_136, m15_137, m15_140, m15_141, m15_142, m15_143, m15_146, m15_149, nb0, nb1, ou_a, Option.toList_some, Option.toList_none, List.nil_append, List.cons_append]
    refine ih (v + 1) _ (by omega) (LN_set hL) ?_ ?_ ?_ (fun od' A' k1 k2 k3 k4 => hq od' A' k1 (FS_t (FS_o (by decide)) k2) k3 k4)
    · rw [ou_ne (by decide)]; exact h5
    · rw [ou_eq]
      refine CM_ext (CM_set (w := cEq ln v (ln v) + 1) h10 rfl (by omega) (by omega) (by omega)) (fun l hl' => ?_)
      rw [up_a]
      show _ = cB (fun u => decide (ln u = l)) v + (if decide (ln v = l) = true then 1 else 0)
      by_cases q : l = ln v
      · rw [if_pos q, q, if_pos (by simp)]
      · rw [if_neg q, if_neg (by simp; exact fun x => q x.symm)]
        rfl
    · rw [ou_ne (by decide)]; exact h9
theorem so1 (s5 : s 5 = nI N) (hN : N ≤ 128) (hl : ∀ v, v < N → ln v ≤ 64) {od : Nat → Int32} : ∀ (r i : Nat) (A : Nat → List Int32), i + r = 65 → LN A → CM nI (A 5) ln N → CM nI (A 10) (fun _ => 0) i → CM (fun x : Int32 => x) (A 9) od 128 →
    (∀ od' A', LN A' → FS A A' → CM (fun x : Int32 => x) (A' 9) od' 128 → (∀ u, u < N → od' (pos N ln u) = nI u) → Q none (put (b + 1) pre s A' post)) → M15 2 [.val (.ref (b + 1)), .val (.int (nI i)), .unset, .unset] [] (put (b + 1) pre s A post) Q := by
  intro r
  induction r with
  | zero =>
    intro i A e hL h5 h10 h9 hq
    obtain rfl : i = 65 := by omega
    have c1 : (nI 65 < 65) = False := lF (c := 65) (by omega) (by omega)
    rw [m15_2]
    simp [c1, m15_0, m15_1u, m15_3, m15_5, m15_8, m15_9, m15_12, m15_13, m15_14, m15_15, m15_18, m15_21, m15_22i, m15_24, m15_25, m15_28, m15_31, m15_32, m15_35, m15_38, m15_39, m15_42, m15_43, m15_46, m15_47, m15_48, m15_49, m15_50, m15_51, m15_52, m15_53, m15_56, m15_59, m15_60i, m15_62, m15_64, m15_67, m15_68, m15_71, m15_72, m15_73, m15_74, m15_75, m15_78, m15_79, m15_80, m15_81, m15_82, m15_83, m15_84, m15_87, m15_90, m15_91, m15_94, m15_95, m15_96i, m15_98, m15_101, m15_102, m15_105, m15_106, m15_107u, m15_107i, m15_107r, m15_107g, m15_108, m15_109, m15_112, m15_113, m15_114, m15_115, m15_116, m15_117, m15_118, m15_119, m15_122, m15_123, m15_124u, m15_124i, m15_124r, m15_124g, m15_125, m15_126, m15_129, m15_130, m15_133, m15_136, m15_137, m15_140, m15_141, m15_142, m15_143, m15_146, m15_149, nb0, nb1, ou_a, Option.toList_some, Option.toList_none, List.nil_append, List.cons_append]
    exact so2 (od := od) s5 hN hl N 0 A (by omega) hL h5 h10 h9 hq
  | succ r ih =>
    intro i A e hL h5 h10 h9 hq
    have c1 : (nI i < 65) = True := lT (c := 65) (by omega) (by omega)
    have q10 := in10 hL (i := i) (by omega)
    have l10 := ln10 hL
    rw [m15_2]
    simp [c1, q10, nI_1, m15_0, m15_1u, m15_3, m15_5, m15_8, m15_9, m15_12, m15_13, m15_14, m15_15, m15_18, m15_21, m15_22i, m15_24, m15_25, m15_28, m15_31, m15_32, m15_35, m15_38, m15_39, m15_42, m15_43, m15_46, m15_47, m15_48, m15_49, m15_50, m15_51, m15_52, m15_53, m15_56, m15_59, m15_60i, m15_62, m15_64, m15_67, m15_68, m15_71, m15_72, m15_73, m15_74, m15_75, m15_78, m15_79, m15_80, m15_81, m15_82, m15_83, m15_84, m15_87, m15_90, m15_91, m15_94, m15_95, m15_96i, m15_98, m15_101, m15_102, m15_105, m15_106, m15_107u, m15_107i, m15_107r, m15_107g, m15_108, m15_109, m15_112, m15_113, m15_114, m15_115, m15_116, m15_117, m15_118, m15_119, m15_122, m15_123, m15_124u, m15_124i, m15_124r, m15_124g, m15_125, m15_126, m15_129, m15_130, m15_133, m15_136, m15_137, m15_140, m15_141, m15_142, m15_143, m15_146, m15_149, nb0, nb1, ou_a, Option.toList_some, Option.toList_none, List.nil_append, List.cons_append]
    refine ih (i + 1) _ (by omega) (LN_set hL) ?_ ?_ ?_ (fun od' A' k1 k2 k3 k4 => hq od' A' k1 (FS_t (FS_o (by decide)) k2) k3 k4)
    · rw [ou_ne (by decide)]; exact h5
    · rw [ou_eq]; exact CM_step h10 rfl (by omega) (by omega)
    · rw [ou_ne (by decide)]; exact h9
theorem soW (s5 : s 5 = nI N) (hN : N ≤ 128) (hl : ∀ v, v < N → ln v ≤ 64) (hL : LN A) (h5 : CM nI (A 5) ln N) (hq : ∀ od' A', LN A' → FS A A' → CM (fun x : Int32 => x) (A' 9) od' 128 → (∀ u, u < N → od' (pos N ln u) = nI u) → Q none (put (b + 1) pre s A' post)) : M15 0 [.val (.ref (b + 1)), .unset, .unset, .unset] [] (put (b + 1) pre s A post) Q := by
  simp [m15_0, m15_1u, m15_3, m15_5, m15_8, m15_9, m15_12, m15_13, m15_14, m15_15, m15_18, m15_21, m15_22i, m15_24, m15_25, m15_28, m15_31, m15_32, m15_35, m15_38, m15_39, m15_42, m15_43, m15_46, m15_47, m15_48, m15_49, m15_50, m15_51, m15_52, m15_53, m15_56, m15_59, m15_60i, m15_62, m15_64, m15_67, m15_68, m15_71, m15_72, m15_73, m15_74, m15_75, m15_78, m15_79, m15_80, m15_81, m15_82, m15_83, m15_84, m15_87, m15_90, m15_91, m15_94, m15_95, m15_96i, m15_98, m15_101, m15_102, m15_105, m15_106, m15_107u, m15_107i, m15_107r, m15_107g, m15_108, m15_109, m15_112, m15_113, m15_114, m15_115, m15_116, m15_117, m15_118, m15_119, m15_122, m15_123, m15_124u, m15_124i, m15_124r, m15_124g, m15_125, m15_126, m15_129, m15_130, m15_133, m15_136, m15_137, m15_140, m15_141, m15_142, m15_143, m15_146, m15_149, nb0, nb1, ou_a, Option.toList_some, Option.toList_none, List.nil_append, List.cons_append]
  exact so1 (od := fun i => getA (A 9) (nI i)) s5 hN hl 65 0 A (by omega) hL h5 (fun _ h => absurd h (by omega)) (fun _ _ => rfl) hq
end Srt
def owF (cl : Nat → Bool) (v : Nat) : Nat := if v ≠ 0 ∧ cl v = false then 1 else 0
section Cnt
variable {b : Nat} {pre post : AHeap} {Q : Option Value → AHeap → Prop} {s : Nat → Int32} {A A' : Nat → List Int32} {al cap n N m last : Nat} {lk nx fe w p : Nat → Nat} {cl : Nat → Bool} {lab : Nat → List Nat}
theorem Cn_le (v : Nat) : Cn w lab n v ≤ n := cB_le _ n
set_option maxRecDepth 1000000 in
set_option maxHeartbeats 20000000 in
theorem ec2 (hS : SA w n N lab lk nx last) (hn : n ≤ 64) (hN : N ≤ 128) (hC : CL N lk (owF cl) (Cn w lab n)) (hl : ∀ u v, u < N → v < N → lk u = v + 1 → (lab v).length < (lab u).length) {od : Nat → Int32} (hod : ∀ u, u < N → od (pos N (fun v => (lab v).length) u) = nI u) : ∀ (i : Nat) (cn : Nat → Nat) (l2 l3 : Slot) (A : Nat → List Int32), i < N → LN A → CM fH (A 4) lk N → CM nI (A 8) cn N → CM (fun x : Int32 => x) (A 9) od 128 → AC N (fun v => (lab v).length) lk (owF cl) (Cn w lab n) i cn → okS l2 → okS l3 →
    (∀ A', LN A' → (∀ k, k ≠ 8 → A' k = A k) → CM nI (A' 8) (Cn w lab n) N → Q none (put (b + 1) pre (ou s 8 1) A' post)) → M14 66 [.val (.ref (b + 1)), .val (.int (nI i)), l2, l3] [] (put (b + 1) pre s A post) Q := by
  intro i
  induction i with
  | zero =>
    intro cn l2 l3 A hi hL h4 h8 h9 hA o2 o3 hq
    have c1 : (nI 0 < 1) = True := lT (c := 1) (by omega) (by omega)
    rw [m14_66]
    simp [c1, m14_0, m14_1, m14_4, m14_7, m14_8, m14_9, m14_12, m14_13u, m14_15, m14_16, m14_19, m14_22, m14_23, m14_26, m14_29, m14_30, m14_33, m14_34, m14_35, m14_38, m14_39, m14_42, m14_43, m14_44, m14_47, m14_48, m14_51, m14_52, m14_53, m14_56, m14_59, m14_60, m14_63, m14_64, m14_65i, m14_67, m14_68, m14_71, m14_72, m14_75, m14_76, m14_77u, m14_77i, m14_77r, m14_77g, m14_78, m14_79, m14_82, m14_83, m14_84u, m14_84i, m14_84r, m14_84g, m14_85, m14_86, m14_89, m14_90, m14_93, m14_94, m14_95, m14_96, m14_97, m14_100, m14_101, m14_102, m14_103, m14_104, m14_107, m14_110, m14_111, m14_112, m14_115, nb0, nb1, ou_a, Option.toList_some, Option.toList_none, List.nil_append, List.cons_append]
    exact hq A hL (fun _ _ => rfl) (CM_ext h8 (fun v hv => hA.v hC hl hv (by omega)))
  | succ i ih =>
    intro cn l2 l3 A hi hL h4 h8 h9 hA o2 o3 hq
    have c1 : (nI (i + 1) < 1) = False := lF (c := 1) (by omega) (by omega)
    obtain ⟨v, hv, pv⟩ := PHs (n := N) (o := pos N (fun v => (lab v).length)) (fun u hu => pos_lt hu) (fun u u' hu hu' e => pos_inj hu hu' e) (i + 1) hi
    have v0 : v ≠ 0 := fun e => by rw [e, pos_0 (by show (lab 0).length = 0; rw [hS.1.2.1]; rfl)] at pv; omega
    obtain ⟨u, hu, k1, _⟩ := hS.2.2.2.2.1 v hv v0
    have q9 := in9 hL (i := i + 1) (by omega)
    have v9 : getA (A 9) (nI (i + 1)) = nI v := by rw [h9 (i + 1) (by omega), ← pv]; exact hod v hv
    have q4 := in4 hL (i := v) (by omega)
    have v4 : getA (A 4) (nI v) = nI u := by rw [h4 v hv, k1, fH_s]
    have c2 : (nI u < 0) = False := nnF (by omega)
    have q8 := in8 hL (i := u) (by omega)
    have v8 := h8 u hu
    have q8v := in8 hL (i := v) (by omega)
    have v8v := h8 v hv
    have l8 := ln8 hL
    have e1 : nI (i + 1) + -1 = nI i := by rw [nI_m1, fH_s]
    rw [m14_66]
    simp [c1, q9, v9, q4, v4, c2, q8, v8, q8v, v8v, e1, o2, o3, nI_add, m14_0, m14_1, m14_4, m14_7, m14_8, m14_9, m14_12, m14_13u, m14_15, m14_16, m14_19, m14_22, m14_23, m14_26, m14_29, m14_30, m14_33, m14_34, m14_35, m14_38, m14_39, m14_42, m14_43, m14_44, m14_47, m14_48, m14_51, m14_52, m14_53, m14_56, m14_59, m14_60, m14_63, m14_64, m14_65i, m14_67, m14_68, m14_71, m14_72, m14_75, m14_76, m14_77u, m14_77i, m14_77r, m14_77g, m14_78, m14_79, m14_82, m14_83, m14_84u, m14_84i, m14_84r, m14_84g, m14_85, m14_86, m14_89, m14_90, m14_93, m14_94, m14_95, m14_96, m14_97, m14_100, m14_101, m14_102, m14_103, m14_104, m14_107, m14_110, m14_111, m14_112, m14_115, nb0, nb1, ou_a, Option.toList_some, Option.toList_none, List.nil_append, List.cons_append]
    refine ih (up cn u (cn u + cn v)) _ _ _ (by omega) (LN_set hL) ?_ ?_ ?_ ?_ (okS_n _) (okS_n _) (fun A' j1 j2 j3 => hq A' j1 (fun k hk => by rw [j2 k hk, ou_ne hk]) j3)
    · rw [ou_ne (by decide)]; exact h4
    · rw [ou_eq]; exact CM_set h8 rfl (by omega) (by omega) (by omega)
    · rw [ou_ne (by decide)]; exact h9
    · have := hA.s hC hl hv pv (by omega) k1 hu
      exact this
theorem ec1 (s5 : s 5 = nI N) (hN : N ≤ 128) : ∀ (r v : Nat) (A : Nat → List Int32), v + r = N → LN A → CM fB (A 7) cl N → CM nI (A 8) (owF cl) v →
    (∀ A', LN A' → (∀ k, k ≠ 8 → A' k = A k) → CM nI (A' 8) (owF cl) N → M14 59 [.val (.ref (b + 1)), .val (.int (nI N)), .unset, .unset] [] (put (b + 1) pre s A' post) Q) → M14 14 [.val (.ref (b + 1)), .val (.int (nI v)), .unset, .unset] [] (put (b + 1) pre s A post) Q := by
  intro r
  induction r with
  | zero =>
    intro v A e hL h7 h8 hq
    obtain rfl : v = N := by omega
    have c1 : (nI v < nI v) = False := lF (by omega) (by omega)
    rw [m14_14]
    simp [s5, c1, m14_0, m14_1, m14_4, m14_7, m14_8, m14_9, m14_12, m14_13u, m14_15, m14_16, m14_19, m14_22, m14_23, m14_26, m14_29, m14_30, m14_33, m14_34, m14_35, m14_38, m14_39, m14_42, m14_43, m14_44, m14_47, m14_48, m14_51, m14_52, m14_53, m14_56, m14_60, m14_63, m14_64, m14_65i, m14_67, m14_68, m14_71, m14_72, m14_75, m14_76, m14_77u, m14_77i, m14_77r, m14_77g, m14_78, m14_79, m14_82, m14_83, m14_84u, m14_84i, m14_84r, m14_84g, m14_85, m14_86, m14_89, m14_90, m14_93, m14_94, m14_95, m14_96, m14_97, m14_100, m14_101, m14_102, m14_103, m14_104, m14_107, m14_110, m14_111, m14_112, m14_115, nb0, nb1, ou_a, Option.toList_some, Option.toList_none, List.nil_append, List.cons_append]
    exact hq A hL (fun _ _ => rfl) h8
  | succ r ih =>
    intro v A e hL h7 h8 hq
    have c1 : (nI v < nI N) = True := lT (by omega) (by omega)
    have c2 : (nI v < 128) = True := lT (c := 128) (by omega) (by decide)
    have q7 := in7 hL (i := v) (by omega)
    have v7 := h7 v (by omega)
    have q8 := in8 hL (i := v) (by omega)
    have l8 := ln8 hL
    have go : ∀ x : Nat, x = owF cl v → M14 14 [.val (.ref (b + 1)), .val (.int (nI (v + 1))), .unset, .unset] [] (put (b + 1) pre s (ou A 8 (setA (A 8) (nI v) (nI x))) post) Q := fun x hx =>
      ih (v + 1) _ (by omega) (LN_set hL) (by rw [ou_ne (by decide)]; exact h7) (by rw [ou_eq]; exact CM_step h8 (by rw [hx]) (by omega) (by omega)) (fun A' j1 j2 j3 => hq A' j1 (fun k hk => by rw [j2 k hk, ou_ne hk]) j3)
    rw [m14_14]
    by_cases z : v = 0
    · have z1 : (nI v = 0) = True := eT (c := 0) z
      simp [s5, c1, c2, z1, q8, nI_1, m14_0, m14_1, m14_4, m14_7, m14_8, m14_9, m14_12, m14_13u, m14_15, m14_16, m14_19, m14_22, m14_23, m14_26, m14_29, m14_30, m14_33, m14_34, m14_35, m14_38, m14_39, m14_42, m14_43, m14_44, m14_47, m14_48, m14_51, m14_52, m14_53, m14_56, m14_60, m14_63, m14_64, m14_65i, m14_67, m14_68, m14_71, m14_72, m14_75, m14_76, m14_77u, m14_77i, m14_77r, m14_77g, m14_78, m14_79, m14_82, m14_83, m14_84u, m14_84i, m14_84r, m14_84g, m14_85, m14_86, m14_89, m14_90, m14_93, m14_94, m14_95, m14_96, m14_97, m14_100, m14_101, m14_102, m14_103, m14_104, m14_107, m14_110, m14_111, m14_112, m14_115, nb0, nb1, ou_a, Option.toList_some, Option.toList_none, List.nil_append, List.cons_append]
      exact go 0 (by unfold owF; rw [if_neg (fun k => k.1 z)])
    · have z1 : (nI v = 0) = False := eF (c := 0) z (by omega) (by decide)
      cases y : cl v with
      | false =>
        have y1 := fB_0 y
        simp [s5, c1, c2, z1, q7, v7, y1, q8, nI_1, m14_0, m14_1, m14_4, m14_7, m14_8, m14_9, m14_12, m14_13u, m14_15, m14_16, m14_19, m14_22, m14_23, m14_26, m14_29, m14_30, m14_33, m14_34, m14_35, m14_38, m14_39, m14_42, m14_43, m14_44, m14_47, m14_48, m14_51, m14_52, m14_53, m14_56, m14_60, m14_63, m14_64, m14_65i, m14_67, m14_68, m14_71, m14_72, m14_75, m14_76, m14_77u, m14_77i, m14_77r, m14_77g, m14_78, m14_79, m14_82, m14_83, m14_84u, m14_84i, m14_84r, m14_84g, m14_85, m14_86, m14_89, m14_90, m14_93, m14_94, m14_95, m14_96, m14_97, m14_100, m14_101, m14_102, m14_103, m14_104, m14_107, m14_110, m14_111, m14_112, m14_115, nb0, nb1, ou_a, Option.toList_some, Option.toList_none, List.nil_append, List.cons_append]
        exact go 1 (by unfold owF; rw [if_pos ⟨z, y⟩])
      | true =>
        have y1 := fB_1 y
        simp [s5, c1, c2, z1, q7, v7, y1, q8, nI_1, m14_0, m14_1, m14_4, m14_7, m14_8, m14_9, m14_12, m14_13u, m14_15, m14_16, m14_19, m14_22, m14_23, m14_26, m14_29, m14_30, m14_33, m14_34, m14_35, m14_38, m14_39, m14_42, m14_43, m14_44, m14_47, m14_48, m14_51, m14_52, m14_53, m14_56, m14_60, m14_63, m14_64, m14_65i, m14_67, m14_68, m14_71, m14_72, m14_75, m14_76, m14_77u, m14_77i, m14_77r, m14_77g, m14_78, m14_79, m14_82, m14_83, m14_84u, m14_84i, m14_84r, m14_84g, m14_85, m14_86, m14_89, m14_90, m14_93, m14_94, m14_95, m14_96, m14_97, m14_100, m14_101, m14_102, m14_103, m14_104, m14_107, m14_110, m14_111, m14_112, m14_115, nb0, nb1, ou_a, Option.toList_some, Option.toList_none, List.nil_append, List.cons_append]
        exact go 0 (by unfold owF; rw [if_neg (fun k => by rw [y] at k; cases k.2)])
theorem ecW (h : OB al cap n N m w p lab lk nx fe cl last s A) (hq : ∀ s' A', OB al cap n N m w p lab lk nx fe cl last s' A' → CM nI (A' 8) (Cn w lab n) N → Q none (put (b + 1) pre s' A' post)) : M14 0 [.val (.ref (b + 1)), .unset, .unset, .unset] [] (put (b + 1) pre s A post) Q := by
  have n6 : n ≤ 64 := Nat.le_trans h.nc h.cp
  have sk := h.sk
  have hS := sk.sa
  have tb := sk.tb
  have n0 := hS.1.1
  rcases h.cv with c0 | ⟨c1, c2⟩
  · simp [c0, m14_0, m14_1, m14_4, m14_7, m14_8, m14_9, m14_12, m14_13u, m14_15, m14_16, m14_19, m14_22, m14_23, m14_26, m14_29, m14_30, m14_33, m14_34, m14_35, m14_38, m14_39, m14_42, m14_43, m14_44, m14_47, m14_48, m14_51, m14_52, m14_53, m14_56, m14_59, m14_60, m14_63, m14_64, m14_65i, m14_67, m14_68, m14_71, m14_72, m14_75, m14_76, m14_77u, m14_77i, m14_77r, m14_77g, m14_78, m14_79, m14_82, m14_83, m14_84u, m14_84i, m14_84r, m14_84g, m14_85, m14_86, m14_89, m14_90, m14_93, m14_94, m14_95, m14_96, m14_97, m14_100, m14_101, m14_102, m14_103, m14_104, m14_107, m14_110, m14_111, m14_112, m14_115, nb0, nb1, ou_a, Option.toList_some, Option.toList_none, List.nil_append, List.cons_append]
    have hl6 : ∀ v, v < N → (lab v).length ≤ 64 := fun v hv => by have := Sb_len (hS.2.2.1 v hv).1; omega
    refine soW (ln := fun v => (lab v).length) h.s5 tb.nb hl6 tb.ln tb.a5 (fun od A1 L1 F1 h9 hod => ?_)
    simp [m14_0, m14_1, m14_4, m14_7, m14_8, m14_9, m14_12, m14_13u, m14_15, m14_16, m14_19, m14_22, m14_23, m14_26, m14_29, m14_30, m14_33, m14_34, m14_35, m14_38, m14_39, m14_42, m14_43, m14_44, m14_47, m14_48, m14_51, m14_52, m14_53, m14_56, m14_59, m14_60, m14_63, m14_64, m14_65i, m14_67, m14_68, m14_71, m14_72, m14_75, m14_76, m14_77u, m14_77i, m14_77r, m14_77g, m14_78, m14_79, m14_82, m14_83, m14_84u, m14_84i, m14_84r, m14_84g, m14_85, m14_86, m14_89, m14_90, m14_93, m14_94, m14_95, m14_96, m14_97, m14_100, m14_101, m14_102, m14_103, m14_104, m14_107, m14_110, m14_111, m14_112, m14_115, nb0, nb1, ou_a, Option.toList_some, Option.toList_none, List.nil_append, List.cons_append]
    refine ec1 (cl := cl) h.s5 tb.nb N 0 A1 (by omega) L1 (by rw [F1 7 (by decide)]; exact tb.a7) (fun _ h => absurd h (by omega)) (fun A2 L2 F2 h8 => ?_)
    have s5 := h.s5
    have eN : nI N - 1 = nI (N - 1) := nI_sub (c := 1) n0
    simp [s5, eN, m14_0, m14_1, m14_4, m14_7, m14_8, m14_9, m14_12, m14_13u, m14_15, m14_16, m14_19, m14_22, m14_23, m14_26, m14_29, m14_30, m14_33, m14_34, m14_35, m14_38, m14_39, m14_42, m14_43, m14_44, m14_47, m14_48, m14_51, m14_52, m14_53, m14_56, m14_59, m14_60, m14_63, m14_64, m14_65i, m14_67, m14_68, m14_71, m14_72, m14_75, m14_76, m14_77u, m14_77i, m14_77r, m14_77g, m14_78, m14_79, m14_82, m14_83, m14_84u, m14_84i, m14_84r, m14_84g, m14_85, m14_86, m14_89, m14_90, m14_93, m14_94, m14_95, m14_96, m14_97, m14_100, m14_101, m14_102, m14_103, m14_104, m14_107, m14_110, m14_111, m14_112, m14_115, nb0, nb1, ou_a, Option.toList_some, Option.toList_none, List.nil_append, List.cons_append]
    have hCL : CL N lk (owF cl) (Cn w lab n) := fun v hv => by
      rw [Cn_s hS hv n (Nat.le_refl _), Ow_c hS sk.cn hv]
      rfl
    have hlk : ∀ u v, u < N → v < N → lk u = v + 1 → (lab v).length < (lab u).length := fun u v hu hv e => by
      have u0 : u ≠ 0 := fun q => by rw [q, hS.1.2.2] at e; omega
      obtain ⟨x, hx, k1, k2, k3, _⟩ := hS.2.2.2.2.1 u hu u0
      have : x = v := by omega
      rw [this] at k3
      exact k3
    refine ec2 hS n6 tb.nb hCL hlk hod (N - 1) (owF cl) _ _ A2 (by omega) L2 (by rw [F2 4 (by decide), F1 4 (by decide)]; exact tb.a4) h8 (by rw [F2 9 (by decide)]; exact h9) (AC_0 (fun _ _ => rfl)) okS_u okS_u (fun A3 L3 F3 h8' => ?_)
    have fr : ∀ k, k < 8 → A3 k = A k := fun k hk => by rw [F3 k (by omega), F2 k (by omega), F1 k (by omega)]
    obtain ⟨q, qa, qb⟩ := h.sq
    exact hq _ A3 ⟨sk.ar L3 (fun k _ k7 => fr k (by omega)), (os_ne (by decide)).trans h.s0, h.al, (os_ne (by decide)).trans h.s1, h.cp, (os_ne (by decide)).trans h.s2, h.nc, (os_ne (by decide)).trans h.s3, h.m6, ⟨q, qa, (os_ne (by decide)).trans qb⟩, (os_ne (by decide)).trans h.s5, (os_ne (by decide)).trans h.s6, by rw [fr 0 (by decide)]; exact h.a0, h.wl, by rw [fr 1 (by decide)]; exact h.a1, h.pl, Or.inr ⟨os_eq, h8'⟩⟩ h8'
  · have z1 : ((1 : Int32) = 0) = False := eq_false (by decide)
    simp [c1, m14_0, m14_1, m14_4, m14_7, m14_8, m14_9, m14_12, m14_13u, m14_15, m14_16, m14_19, m14_22, m14_23, m14_26, m14_29, m14_30, m14_33, m14_34, m14_35, m14_38, m14_39, m14_42, m14_43, m14_44, m14_47, m14_48, m14_51, m14_52, m14_53, m14_56, m14_59, m14_60, m14_63, m14_64, m14_65i, m14_67, m14_68, m14_71, m14_72, m14_75, m14_76, m14_77u, m14_77i, m14_77r, m14_77g, m14_78, m14_79, m14_82, m14_83, m14_84u, m14_84i, m14_84r, m14_84g, m14_85, m14_86, m14_89, m14_90, m14_93, m14_94, m14_95, m14_96, m14_97, m14_100, m14_101, m14_102, m14_103, m14_104, m14_107, m14_110, m14_111, m14_112, m14_115, nb0, nb1, ou_a, Option.toList_some, Option.toList_none, List.nil_append, List.cons_append]
    exact hq s A h c2
/-- how often, how early: what the law counts -/
abbrev MT (w p : Nat → Nat) (m i : Nat) : Bool := decide (tx p m <+: tx w (i + m))
theorem cB_sh {P : Nat → Bool} {m : Nat} (hm : 1 ≤ m) (hP : ∀ x, x < m → P x = false) : ∀ k, cB (fun e => P (e + 1)) (m - 1 + k) = cB (fun i => P (i + m)) k := by
  have z : ∀ k, k ≤ m - 1 → cB (fun e => P (e + 1)) k = 0 := by
    intro k
    induction k with
    | zero => intro _; rfl
    | succ k ih => intro h; rw [cB, ih (by omega), if_neg (by rw [hP (k + 1) (by omega)]; decide)]
  intro k
  induction k with
  | zero => rw [Nat.add_zero]; exact z _ (Nat.le_refl _)
  | succ k ih =>
    rw [← Nat.add_assoc, cB, cB, ih, show m - 1 + k + 1 = k + m by omega]
theorem cn_law (hm : 1 ≤ m) (hmn : m ≤ n) {v : Nat} (h1 : tx p m <+: lab v) (h2 : OLE w n (tx p m) (lab v)) : Cn w lab n v = cB (MT w p m) (n + 1 - m) := by
  have e : Cn w lab n v = cB (fun e => decide (tx p m <+: tx w (e + 1))) n := cB_ext n (fun i hi => by
    apply decide_eq_decide.mpr
    constructor
    · intro q; exact h1.trans q
    · intro q; exact (h2 (i + 1) ⟨by omega, q⟩).2)
  rw [e]
  have := cB_sh (P := fun x => decide (tx p m <+: tx w x)) hm (fun x hx => decide_eq_false (fun q => by have := pre_len q; rw [tx_len, tx_len] at this; omega)) (n + 1 - m)
  rw [show m - 1 + (n + 1 - m) = n by omega] at this
  exact this
theorem cn_no (hs : ¬ Sb w n (tx p m)) (hmn : m ≤ n) : ∀ i, i < n + 1 - m → MT w p m i = false := fun i hi => decide_eq_false (fun q => hs ⟨i + m, by omega, q⟩)
set_option maxRecDepth 1000000 in
set_option maxHeartbeats 20000000 in
theorem ocW (h : OX al cap n m w p s A) (hq : ∀ (k : Nat) s' A', OX al cap n m w p s' A' → (m ≤ n → k = cB (MT w p m) (n + 1 - m)) → (n < m → k = 0) → Q (some (.int (nI k))) (put (b + 1) pre s' A' post)) : M5 0 [.val (.ref (b + 1)), .unset] [] (put (b + 1) pre s A post) Q := by
  obtain ⟨N, lab, lk, nx, fe, cl, last, h⟩ := id h
  have s2 := h.s2
  have s3 := h.s3
  have m6 := h.m6
  have n6 : n ≤ 64 := Nat.le_trans h.nc h.cp
  by_cases z : m = 0
  · have z1 : (nI m = 0) = True := eT (c := 0) z
    simp [s3, z1, s2, nI_1, m5_0, m5_1, m5_4, m5_7, m5_8, m5_11, m5_12, m5_13, m5_14, m5_15, m5_18, m5_19, m5_22, m5_25, m5_26, m5_27, m5_28, m5_31u, m5_32, m5_33, m5_34, m5_37, m5_38, m5_39, m5_40, m5_43, m5_44, m5_47, m5_48, m5_49, nb0, nb1, ou_a, Option.toList_some, Option.toList_none, List.nil_append, List.cons_append]
    refine hq (n + 1) s A ⟨N, lab, lk, nx, fe, cl, last, h⟩ (fun _ => ?_) (fun q => by omega)
    subst z
    have : ∀ k, cB (MT w p 0) k = k := by
      intro k
      induction k with
      | zero => rfl
      | succ k ih => rw [cB, ih, if_pos (show MT w p 0 k = true from decide_eq_true List.nil_prefix)]
    rw [this]
    rfl
  · have z1 : (nI m = 0) = False := eF (c := 0) z (by omega) (by decide)
    by_cases y : n < m
    · have y1 : (nI n < nI m) = True := lT y (by omega)
      simp [s3, z1, s2, y1, m5_0, m5_1, m5_4, m5_7, m5_8, m5_11, m5_12, m5_13, m5_14, m5_15, m5_18, m5_19, m5_22, m5_25, m5_26, m5_27, m5_28, m5_31u, m5_32, m5_33, m5_34, m5_37, m5_38, m5_39, m5_40, m5_43, m5_44, m5_47, m5_48, m5_49, nb0, nb1, ou_a, Option.toList_some, Option.toList_none, List.nil_append, List.cons_append]
      exact hq 0 s A ⟨N, lab, lk, nx, fe, cl, last, h⟩ (fun q => by omega) (fun _ => rfl)
    · have y1 : (nI n < nI m) = False := lF (by omega) (by omega)
      simp [s3, z1, s2, y1, m5_0, m5_1, m5_4, m5_7, m5_8, m5_11, m5_12, m5_13, m5_14, m5_15, m5_18, m5_19, m5_22, m5_25, m5_26, m5_27, m5_28, m5_31u, m5_32, m5_33, m5_34, m5_37, m5_38, m5_39, m5_40, m5_43, m5_44, m5_47, m5_48, m5_49, nb0, nb1, ou_a, Option.toList_some, Option.toList_none, List.nil_append, List.cons_append]
      refine wpW h (fun v hv k1 k2 k3 => ?_) (fun hs => ?_)
      · have nb := h.sk.tb.nb
        have c1 : (nI v = -1) = False := eq_false (fun q => by have := nI_nn (a := v) (by omega); rw [q] at this; exact this (by decide))
        simp [c1, m5_0, m5_1, m5_4, m5_7, m5_8, m5_11, m5_12, m5_13, m5_14, m5_15, m5_18, m5_19, m5_22, m5_25, m5_26, m5_27, m5_28, m5_31u, m5_32, m5_33, m5_34, m5_37, m5_38, m5_39, m5_40, m5_43, m5_44, m5_47, m5_48, m5_49, nb0, nb1, ou_a, Option.toList_some, Option.toList_none, List.nil_append, List.cons_append]
        refine ecW h (fun s' A' h' h8 => ?_)
        have q8 := in8 h'.sk.tb.ln (i := v) (by omega)
        have v8 := h8 v hv
        simp [q8, v8, m5_0, m5_1, m5_4, m5_7, m5_8, m5_11, m5_12, m5_13, m5_14, m5_15, m5_18, m5_19, m5_22, m5_25, m5_26, m5_27, m5_28, m5_31u, m5_32, m5_33, m5_34, m5_37, m5_38, m5_39, m5_40, m5_43, m5_44, m5_47, m5_48, m5_49, nb0, nb1, ou_a, Option.toList_some, Option.toList_none, List.nil_append, List.cons_append]
        exact hq _ s' A' ⟨N, lab, lk, nx, fe, cl, last, h'⟩ (fun _ => cn_law (by omega) (by omega) k1 k2) (fun q => by omega)
      · simp [m5_0, m5_1, m5_4, m5_7, m5_8, m5_11, m5_12, m5_13, m5_14, m5_15, m5_18, m5_19, m5_22, m5_25, m5_26, m5_27, m5_28, m5_31u, m5_32, m5_33, m5_34, m5_37, m5_38, m5_39, m5_40, m5_43, m5_44, m5_47, m5_48, m5_49, nb0, nb1, ou_a, Option.toList_some, Option.toList_none, List.nil_append, List.cons_append]
        refine hq 0 s A ⟨N, lab, lk, nx, fe, cl, last, h⟩ (fun q => ?_) (fun _ => rfl)
        have no := cn_no hs q
        have : ∀ k, k ≤ n + 1 - m → cB (MT w p m) k = 0 := by
          intro k
          induction k with
          | zero => intro _; rfl
          | succ k ih => intro hk; rw [cB, ih (by omega), if_neg (by rw [no k (by omega)]; decide)]
        exact (this _ (Nat.le_refl _)).symm
theorem coW (h : OX al cap n m w p s A) (hq1 : (m ≤ n ∧ ∃ i, i < n + 1 - m ∧ MT w p m i = true) → Q (some (.int 1)) (put (b + 1) pre s A post)) (hq0 : (∀ i, m ≤ n → i < n + 1 - m → MT w p m i = false) → Q (some (.int 0)) (put (b + 1) pre s A post)) : M6 0 [.val (.ref (b + 1))] [] (put (b + 1) pre s A post) Q := by
  obtain ⟨N, lab, lk, nx, fe, cl, last, h⟩ := id h
  have s2 := h.s2
  have s3 := h.s3
  have m6 := h.m6
  have n6 : n ≤ 64 := Nat.le_trans h.nc h.cp
  by_cases z : m = 0
  · have z1 : (nI m = 0) = True := eT (c := 0) z
    simp [s3, z1, m6_0, m6_1, m6_4, m6_7, m6_8, m6_9, m6_10, m6_13, m6_14, m6_17, m6_20, m6_21, m6_22, m6_23, m6_26, m6_27, m6_30, m6_31, m6_34, m6_35, nb0, nb1, ou_a, Option.toList_some, Option.toList_none, List.nil_append, List.cons_append]
    exact hq1 ⟨by omega, 0, by omega, decide_eq_true (by rw [z]; exact List.nil_prefix)⟩
  · have z1 : (nI m = 0) = False := eF (c := 0) z (by omega) (by decide)
    by_cases y : n < m
    · have y1 : (nI n < nI m) = True := lT y (by omega)
      simp [s3, z1, s2, y1, m6_0, m6_1, m6_4, m6_7, m6_8, m6_9, m6_10, m6_13, m6_14, m6_17, m6_20, m6_21, m6_22, m6_23, m6_26, m6_27, m6_30, m6_31, m6_34, m6_35, nb0, nb1, ou_a, Option.toList_some, Option.toList_none, List.nil_append, List.cons_append]
      exact hq0 (fun i q => by omega)
    · have y1 : (nI n < nI m) = False := lF (by omega) (by omega)
      simp [s3, z1, s2, y1, m6_0, m6_1, m6_4, m6_7, m6_8, m6_9, m6_10, m6_13, m6_14, m6_17, m6_20, m6_21, m6_22, m6_23, m6_26, m6_27, m6_30, m6_31, m6_34, m6_35, nb0, nb1, ou_a, Option.toList_some, Option.toList_none, List.nil_append, List.cons_append]
      refine wpW h (fun v hv k1 k2 k3 => ?_) (fun hs => ?_)
      · have nb := h.sk.tb.nb
        have c1 : (nI v = -1) = False := eq_false (fun q => by have := nI_nn (a := v) (by omega); rw [q] at this; exact this (by decide))
        simp [c1, m6_0, m6_1, m6_4, m6_7, m6_8, m6_9, m6_10, m6_13, m6_14, m6_17, m6_20, m6_21, m6_22, m6_23, m6_26, m6_27, m6_30, m6_31, m6_34, m6_35, nb0, nb1, ou_a, Option.toList_some, Option.toList_none, List.nil_append, List.cons_append]
        obtain ⟨e, he⟩ := k3
        have le := pre_len he.2
        rw [tx_len, tx_len] at le
        exact hq1 ⟨by omega, e - m, by have := he.1; omega, decide_eq_true (by rw [show e - m + m = e by omega]; exact he.2)⟩
      · simp [m6_0, m6_1, m6_4, m6_7, m6_8, m6_9, m6_10, m6_13, m6_14, m6_17, m6_20, m6_21, m6_22, m6_23, m6_26, m6_27, m6_30, m6_31, m6_34, m6_35, nb0, nb1, ou_a, Option.toList_some, Option.toList_none, List.nil_append, List.cons_append]
        exact hq0 (fun i q hi => cn_no hs q i hi)
theorem foW (h : OX al cap n m w p s A) (hq1 : ∀ i, m ≤ n → i < n + 1 - m → MT w p m i = true → (∀ j, j < i → MT w p m j = false) → Q (some (.int (nI i))) (put (b + 1) pre s A post)) (hq0 : (∀ i, m ≤ n → i < n + 1 - m → MT w p m i = false) → Q (some (.int (-1))) (put (b + 1) pre s A post)) : M7 0 [.val (.ref (b + 1)), .unset] [] (put (b + 1) pre s A post) Q := by
  obtain ⟨N, lab, lk, nx, fe, cl, last, h⟩ := id h
  have s2 := h.s2
  have s3 := h.s3
  have m6 := h.m6
  have n6 : n ≤ 64 := Nat.le_trans h.nc h.cp
  by_cases z : m = 0
  · have z1 : (nI m = 0) = True := eT (c := 0) z
    simp [s3, z1, m7_0, m7_1, m7_4, m7_7, m7_8, m7_9, m7_10, m7_13, m7_14, m7_17, m7_20, m7_21, m7_22, m7_23, m7_26u, m7_27, m7_28, m7_29, m7_32, m7_33, m7_34, m7_35, m7_38, m7_39, m7_40, m7_41, m7_44, m7_45, m7_46, m7_47, nb0, nb1, ou_a, Option.toList_some, Option.toList_none, List.nil_append, List.cons_append]
    exact hq1 0 (by omega) (by omega) (decide_eq_true (by rw [z]; exact List.nil_prefix)) (fun j hj => absurd hj (by omega))
  · have z1 : (nI m = 0) = False := eF (c := 0) z (by omega) (by decide)
    by_cases y : n < m
    · have y1 : (nI n < nI m) = True := lT y (by omega)
      simp [s3, z1, s2, y1, m7_0, m7_1, m7_4, m7_7, m7_8, m7_9, m7_10, m7_13, m7_14, m7_17, m7_20, m7_21, m7_22, m7_23, m7_26u, m7_27, m7_28, m7_29, m7_32, m7_33, m7_34, m7_35, m7_38, m7_39, m7_40, m7_41, m7_44, m7_45, m7_46, m7_47, nb0, nb1, ou_a, Option.toList_some, Option.toList_none, List.nil_append, List.cons_append]
      exact hq0 (fun i q => by omega)
    · have y1 : (nI n < nI m) = False := lF (by omega) (by omega)
      simp [s3, z1, s2, y1, m7_0, m7_1, m7_4, m7_7, m7_8, m7_9, m7_10, m7_13, m7_14, m7_17, m7_20, m7_21, m7_22, m7_23, m7_26u, m7_27, m7_28, m7_29, m7_32, m7_33, m7_34, m7_35, m7_38, m7_39, m7_40, m7_41, m7_44, m7_45, m7_46, m7_47, nb0, nb1, ou_a, Option.toList_some, Option.toList_none, List.nil_append, List.cons_append]
      refine wpW h (fun v hv k1 k2 k3 => ?_) (fun hs => ?_)
      · have nb := h.sk.tb.nb
        have c1 : (nI v = -1) = False := eq_false (fun q => by have := nI_nn (a := v) (by omega); rw [q] at this; exact this (by decide))
        have v0 : v ≠ 0 := fun e => by
          rw [e, h.sk.sa.1.2.1] at k1
          have := pre_len k1
          rw [tx_len] at this
          simp at this
          omega
        obtain ⟨f1, f2⟩ := h.sk.fe v hv v0
        have f3 := f1.pre k1
        have le := pre_len f3.2
        rw [tx_len, tx_len] at le
        have fb := f3.1
        have q6 := in6 h.sk.tb.ln (i := v) (by omega)
        have v6 := h.sk.tb.a6 v hv
        have e1 : nI (fe v) - nI m + 1 = nI (fe v + 1 - m) := by
          rw [show nI (fe v) - nI m + 1 = nI (fe v) + 1 - nI m by rw [Int32.sub_eq_add_neg, Int32.sub_eq_add_neg, Int32.add_assoc, Int32.add_comm (-nI m) 1, ← Int32.add_assoc], nI_1]
          exact nI_sub (by omega)
        simp [c1, q6, v6, s3, e1, m7_0, m7_1, m7_4, m7_7, m7_8, m7_9, m7_10, m7_13, m7_14, m7_17, m7_20, m7_21, m7_22, m7_23, m7_26u, m7_27, m7_28, m7_29, m7_32, m7_33, m7_34, m7_35, m7_38, m7_39, m7_40, m7_41, m7_44, m7_45, m7_46, m7_47, nb0, nb1, ou_a, Option.toList_some, Option.toList_none, List.nil_append, List.cons_append]
        refine hq1 _ (by omega) (by omega) (decide_eq_true (by rw [show fe v + 1 - m + m = fe v + 1 by omega]; exact f3.2)) (fun j hj => decide_eq_false (fun q => ?_))
        have := f2 (j + m) (k2 (j + m) ⟨by omega, q⟩)
        omega
      · simp [m7_0, m7_1, m7_4, m7_7, m7_8, m7_9, m7_10, m7_13, m7_14, m7_17, m7_20, m7_21, m7_22, m7_23, m7_26u, m7_27, m7_28, m7_29, m7_32, m7_33, m7_34, m7_35, m7_38, m7_39, m7_40, m7_41, m7_44, m7_45, m7_46, m7_47, nb0, nb1, ou_a, Option.toList_some, Option.toList_none, List.nil_append, List.cons_append]
        exact hq0 (fun i q hi => cn_no hs q i hi)
end Cnt
theorem shl_b (x : Int64) : ∀ s : Fin 64, ((Int64.ofNat s.val).toBitVec.smod 64) = BitVec.ofNat 64 s.val := by decide +kernel
theorem shl_s (x : Int64) {s : Nat} (hs : s < 64) : (x <<< Int64.ofNat s).toBitVec = x.toBitVec <<< s := by
  rw [Int64.toBitVec_shiftLeft]
  have := shl_b x ⟨s, hs⟩
  have e : ((Int64.ofNat s).toBitVec.smod 64) = BitVec.ofNat 64 s := this
  rw [e, BitVec.shiftLeft_eq', BitVec.toNat_ofNat, Nat.mod_eq_of_lt (by omega)]
theorem shr_s (x : Int64) {s : Nat} (hs : s < 64) {y : Int32} (hy : y.toInt64.toUInt64 &&& Int64.toUInt64 63 = UInt64.ofNat s) : (XT.ushrL x y).toBitVec = x.toBitVec >>> s := by
  unfold XT.ushrL
  rw [hy]
  show (x.toUInt64 >>> UInt64.ofNat s).toBitVec = _
  rw [UInt64.toBitVec_shiftRight]
  have e : (UInt64.ofNat s).toBitVec % 64 = BitVec.ofNat 64 s := by
    apply BitVec.eq_of_toNat_eq
    rw [BitVec.toNat_umod]
    show (BitVec.ofNat 64 s).toNat % (BitVec.ofNat 64 64).toNat = _
    rw [BitVec.toNat_ofNat, BitVec.toNat_ofNat, Nat.mod_eq_of_lt (show s < 2 ^ 64 by omega)]
    exact Nat.mod_eq_of_lt hs
  rw [e, BitVec.ushiftRight_eq', BitVec.toNat_ofNat, Nat.mod_eq_of_lt (by omega)]
  rfl
/-! three bits for each letter of the pattern -/
theorem i3_r : ∀ j : Fin 16, ((3 * nI j.val).toInt64.toUInt64 &&& Int64.toUInt64 63 = UInt64.ofNat (3 * j.val)) ∧ (3 * nI j.val).toInt64 &&& 63 = Int64.ofNat (3 * j.val) := by decide +kernel
theorem m7_r : ∀ k : Fin 64, (7 : Int64).toBitVec.getLsbD k.val = decide (k.val < 3) := by decide +kernel
def F3 (x : Int64) (j : Nat) (f : Nat → Nat) : Prop := ∀ k, k < 64 → x.toBitVec.getLsbD k = (decide (k < 3 * j) && (f (k / 3)).testBit (k % 3))
theorem F3_0 (f : Nat → Nat) : F3 0 0 f := fun k hk => by
  show (0#64).getLsbD k = _
  rw [BitVec.getLsbD_zero]
  simp
theorem F3_e {x : Int64} {j : Nat} {f g : Nat → Nat} (h : F3 x j f) (e : ∀ i, i < j → f i = g i) : F3 x j g := fun k hk => by
  rw [h k hk]
  by_cases q : k < 3 * j
  · rw [e (k / 3) (by omega)]
  · simp [q]
theorem F3_s {w : Int64} {j x : Nat} {f : Nat → Nat} (h : F3 w j f) (hj : j < 16) (hx : x < 8) (e : f j = x) : F3 (w ||| ((nI x).toInt64 <<< ((3 * nI j).toInt64 &&& 63))) (j + 1) f := fun k hk => by
  have pv : ((nI x).toInt64).toBitVec = BitVec.ofNat 64 x := by
    have : (nI x).toInt64 = Int64.ofNat x := by
      apply Int64.toInt_inj.mp
      rw [Int32.toInt_toInt64, Int64.toInt_ofNat_of_lt (by omega)]
      exact Int32.toInt_ofNat_of_lt (by omega)
    rw [this]; rfl
  have tb : ∀ i, 3 ≤ i → x.testBit i = false := fun i hi => Nat.testBit_lt_two_pow (Nat.lt_of_lt_of_le hx (Nat.pow_le_pow_right (n := 2) (i := 3) (by decide) hi))
  rw [Int64.toBitVec_or, BitVec.getLsbD_or, h k hk, show (3 * nI j).toInt64 &&& 63 = Int64.ofNat (3 * j) from (i3_r ⟨j, hj⟩).2, shl_s _ (by omega), BitVec.getLsbD_shiftLeft]
  by_cases a : k < 3 * j
  · simp [a, show k < 3 * (j + 1) by omega]
  · rw [pv, BitVec.getLsbD_ofNat]
    by_cases b : k < 3 * (j + 1)
    · have h1 : k / 3 = j := by omega
      have h2 : k % 3 = k - 3 * j := by omega
      rw [h1, h2, e]
      simp [a, b, hk, show k - 3 * j < 64 by omega]
    · rw [tb (k - 3 * j) (by omega)]
      simp [a, b]
theorem F3_g {w : Int64} {j i : Nat} {f : Nat → Nat} (h : F3 w j f) (hj : j ≤ 16) (hi : i < j) (hf : f i < 8) : (XT.ushrL w (3 * nI i) &&& 7).toInt32 = nI (f i) := by
  apply Int32.toBitVec_inj.mp
  apply BitVec.eq_of_getLsbD_eq
  intro k hk
  rw [Int64.toBitVec_toInt32, BitVec.getLsbD_signExtend, Int64.toBitVec_and, BitVec.getLsbD_and, show (7 : Int64).toBitVec.getLsbD k = decide (k < 3) from m7_r ⟨k, by omega⟩, shr_s w (by omega) (i3_r ⟨i, by omega⟩).1, BitVec.getLsbD_ushiftRight]
  have e : (nI (f i)).toBitVec.getLsbD k = (f i).testBit k := by
    show (BitVec.ofNat 32 (f i)).getLsbD k = _
    rw [BitVec.getLsbD_ofNat]
    simp [hk]
  rw [e]
  by_cases a : k < 3
  · show (decide (k < 32) && if k < 64 then w.toBitVec.getLsbD (3 * i + k) && decide (k < 3) else _) = _
    rw [if_pos (by omega), h (3 * i + k) (by omega), show (3 * i + k) / 3 = i by omega, show (3 * i + k) % 3 = k by omega]
    simp [a, hk, show 3 * i + k < 3 * j by omega]
  · have : (f i).testBit k = false := Nat.testBit_lt_two_pow (Nat.lt_of_lt_of_le hf (Nat.pow_le_pow_right (n := 2) (i := 3) (by decide) (by omega)))
    rw [this]
    simp [a, show k < 64 by omega]
theorem a15_r : ∀ m : Fin 64, nI m.val &&& 15 = nI (m.val % 16) := by decide +kernel
theorem a15 {m : Nat} (h : m < 64) : nI m &&& 15 = nI (m % 16) := a15_r ⟨m, h⟩
/-- the whole pattern in four longs -/
def PQ (x0 x1 x2 x3 : Int64) (m : Nat) (p : Nat → Nat) : Prop := F3 x0 (min 16 m) p ∧ F3 x1 (min 16 (m - 16)) (fun i => p (16 + i)) ∧ F3 x2 (min 16 (m - 32)) (fun i => p (32 + i)) ∧ F3 x3 (min 16 (m - 48)) (fun i => p (48 + i))
def am (w : Nat) (v : Int32) : Nat := v.toBitVec.toNat % 2 ^ w
theorem am_lt (w : Nat) (v : Int32) : am w v < 2 ^ w := Nat.mod_lt _ (Nat.two_pow_pos _)
theorem nI_bv (n : Nat) : (nI n).toBitVec = BitVec.ofNat 32 n := rfl
theorem and_am {k : Nat} (h : k ≤ 31) (v : Int32) : v &&& nI (2 ^ k - 1) = nI (am k v) := by
  have h16 : 2 ^ k ≤ 2 ^ 31 := Nat.pow_le_pow_right (by decide) h
  have hm := am_lt k v
  apply Int32.toBitVec_inj.mp
  rw [Int32.toBitVec_and, nI_bv, nI_bv]
  apply BitVec.eq_of_toNat_eq
  rw [BitVec.toNat_and, BitVec.toNat_ofNat, BitVec.toNat_ofNat, Nat.mod_eq_of_lt (show 2 ^ k - 1 < 2 ^ 32 by omega), Nat.mod_eq_of_lt (show am k v < 2 ^ 32 by omega), Nat.and_two_pow_sub_one_eq_mod]
  rfl
def mdI (x : Int32) (m : Nat) : Int32 := if x % nI m < 0 then x % nI m + nI m else x % nI m
def mdN (x : Int32) (m : Nat) : Nat := (mdI x m).toInt.toNat
theorem uu_bd (x : Int32) {m : Nat} (m0 : 0 < m) (m1 : m ≤ 1000) : ∃ k, k < m ∧ mdI x m = nI k := by
  have em : (nI m).toInt = m := nI_int (by omega)
  have e : (x % nI m).toInt = x.toInt.tmod m := by rw [Int32.toInt_mod, em]
  have h1 := Int.tmod_lt_of_pos x.toInt (show (0 : Int) < m by omega)
  have h2 := Int.tmod_lt_of_pos (-x.toInt) (show (0 : Int) < m by omega)
  rw [Int.neg_tmod] at h2
  unfold mdI
  by_cases h : x % nI m < 0
  · rw [if_pos h]
    rw [lt_i, i_0, e] at h
    have a := add_i (a := x % nI m) (b := nI m) (by rw [e, em]; omega) (by rw [e, em]; omega)
    rw [e, em] at a
    refine ⟨(x.toInt.tmod m + m).toNat, by omega, Int32.toInt_inj.mp ?_⟩
    rw [a, nI_int (by omega)]
    omega
  · rw [if_neg h]
    rw [lt_i, i_0, e] at h
    refine ⟨(x.toInt.tmod m).toNat, by omega, Int32.toInt_inj.mp ?_⟩
    rw [e, nI_int (by omega)]
    omega
theorem md_e (x : Int32) {m : Nat} (m0 : 0 < m) (m1 : m ≤ 1000) : mdN x m < m ∧ mdI x m = nI (mdN x m) := by
  obtain ⟨k, hk, e⟩ := uu_bd x m0 m1
  have : mdN x m = k := by unfold mdN; rw [e, nI_int (by omega)]; rfl
  rw [this]
  exact ⟨hk, e⟩
theorem PQ_s {x0 x1 x2 x3 : Int64} {m c : Nat} {p : Nat → Nat} (h : PQ x0 x1 x2 x3 m p) (hm : m < 64) (hc : c < 8) :
    (m < 16 → PQ (x0 ||| ((nI c).toInt64 <<< ((3 * nI (m % 16)).toInt64 &&& 63))) x1 x2 x3 (m + 1) (up p m c)) ∧ (16 ≤ m → m < 32 → PQ x0 (x1 ||| ((nI c).toInt64 <<< ((3 * nI (m % 16)).toInt64 &&& 63))) x2 x3 (m + 1) (up p m c)) ∧
    (32 ≤ m → m < 48 → PQ x0 x1 (x2 ||| ((nI c).toInt64 <<< ((3 * nI (m % 16)).toInt64 &&& 63))) x3 (m + 1) (up p m c)) ∧ (48 ≤ m → PQ x0 x1 x2 (x3 ||| ((nI c).toInt64 <<< ((3 * nI (m % 16)).toInt64 &&& 63))) (m + 1) (up p m c)) := by
  obtain ⟨h0, h1, h2, h3⟩ := h
  have o : ∀ (q : Nat) (x : Int64), F3 x (min 16 (m - q)) (fun i => p (q + i)) → (q + 16 ≤ m ∨ m < q) → F3 x (min 16 (m + 1 - q)) (fun i => up p m c (q + i)) := fun q x hx hq => by
    rw [show min 16 (m + 1 - q) = min 16 (m - q) by omega]
    exact F3_e hx (fun i hi => by show p (q + i) = up p m c (q + i); rw [up_ne (by omega)])
  have y : ∀ (q : Nat) (x : Int64), F3 x (min 16 (m - q)) (fun i => p (q + i)) → q ≤ m → m < q + 16 → m % 16 = m - q → F3 (x ||| ((nI c).toInt64 <<< ((3 * nI (m % 16)).toInt64 &&& 63))) (min 16 (m + 1 - q)) (fun i => up p m c (q + i)) := fun q x hx h1 h2 h3 => by
    have hx' : F3 x (m - q) (fun i => up p m c (q + i)) := by
      rw [show min 16 (m - q) = m - q by omega] at hx
      exact F3_e hx (fun i hi => by show p (q + i) = up p m c (q + i); rw [up_ne (by omega)])
    rw [show min 16 (m + 1 - q) = m - q + 1 by omega, h3]
    exact F3_s hx' (by omega) hc (by show up p m c (q + (m - q)) = c; rw [show q + (m - q) = m by omega, up_eq])
  have z0 : F3 x0 (min 16 (m - 0)) (fun i => p (0 + i)) := by
    rw [Nat.sub_zero]
    exact F3_e h0 (fun i _ => by show p i = p (0 + i); rw [Nat.zero_add])
  have b0 : ∀ {x : Int64} {k : Nat}, F3 x (min 16 (m + 1 - 0)) (fun i => up p m c (0 + i)) → F3 x (min 16 (m + 1)) (up p m c) := fun {x k} hx => F3_e hx (fun i _ => by show up p m c (0 + i) = _; rw [Nat.zero_add])
  refine ⟨fun a => ⟨b0 (k := 0) (y 0 x0 z0 (by omega) (by omega) (by omega)), o 16 x1 h1 (by omega), o 32 x2 h2 (by omega), o 48 x3 h3 (by omega)⟩, fun a d => ⟨b0 (k := 0) (o 0 x0 z0 (by omega)), y 16 x1 h1 (by omega) (by omega) (by omega), o 32 x2 h2 (by omega), o 48 x3 h3 (by omega)⟩, fun a d => ⟨b0 (k := 0) (o 0 x0 z0 (by omega)), o 16 x1 h1 (by omega), y 32 x2 h2 (by omega) (by omega) (by omega), o 48 x3 h3 (by omega)⟩, fun a => ⟨b0 (k := 0) (o 0 x0 z0 (by omega)), o 16 x1 h1 (by omega), o 32 x2 h2 (by omega), y 48 x3 h3 (by omega) (by omega) (by omega)⟩⟩
theorem PQ_0 (p : Nat → Nat) : PQ 0 0 0 0 0 p := ⟨F3_0 _, F3_0 _, F3_0 _, F3_0 _⟩
theorem us_nI (v : Int32) {k : Int32} {j : Nat} (hk : (k &&& 31).toUInt32 = UInt32.ofNat j) (j1 : 1 ≤ j) (j2 : j < 32) : ∃ a, a < 2147483648 ∧ XT.ushr v k = nI a := by
  refine ⟨(v.toUInt32 >>> UInt32.ofNat j).toBitVec.toNat, ?_, ?_⟩
  · show (v.toUInt32 >>> UInt32.ofNat j).toNat < _
    rw [UInt32.toNat_shiftRight]
    have e : (UInt32.ofNat j).toNat % 32 = j := by
      rw [UInt32.toNat_ofNat_of_lt' (by show j < 4294967296; omega)]
      exact Nat.mod_eq_of_lt j2
    rw [e, Nat.shiftRight_eq_div_pow]
    have l := v.toUInt32.toNat_lt
    have p2 : 2 ≤ 2 ^ j := Nat.le_trans (by decide : 2 ≤ 2 ^ 1) (Nat.pow_le_pow_right (by decide) j1)
    have : v.toUInt32.toNat / 2 ^ j ≤ v.toUInt32.toNat / 2 := Nat.div_le_div_left p2 (by decide)
    omega
  · unfold XT.ushr
    rw [hk]
    apply Int32.toBitVec_inj.mp
    show (v.toUInt32 >>> UInt32.ofNat j).toBitVec = BitVec.ofNat 32 _
    exact (BitVec.ofNat_toNat _ _).symm ▸ (by simp)
theorem tx_iff {w p : Nat → Nat} : ∀ (m i : Nat), tx p m <+: tx w (i + m) ↔ ∀ j, j < m → w (i + j) = p j := by
  intro m
  induction m with
  | zero => intro i; exact ⟨fun _ j hj => absurd hj (by omega), fun _ => List.nil_prefix⟩
  | succ m ih =>
    intro i
    rw [← Nat.add_assoc, tx, tx]
    constructor
    · intro h
      rcases pre_c h with e | ⟨z, e, hz⟩
      · cases e
      · injection e with e1 e2
        rw [← e2] at hz
        intro j hj
        by_cases y : j = m
        · rw [y, e1]
        · exact (ih i).mp hz j (by omega)
    · intro h
      rw [h m (by omega)]
      exact cons_pre ((ih i).mpr (fun j hj => h j (by omega)))
def okP (a c : Slot) : Prop := (okS a ∧ okS c) ∨ ∃ J : Int64, a = .val (.long J) ∧ c = .second
theorem okP_u : okP .unset .unset := Or.inl ⟨okS_u, okS_u⟩
theorem okP_l (J : Int64) : okP (.val (.long J)) .second := Or.inr ⟨J, rfl, rfl⟩
theorem okP_s {a c : Slot} (h : okS a) (h' : okS c) : okP a c := Or.inl ⟨h, h'⟩
section St
variable {st : List Value} {H : AHeap} {Q : Option Value → AHeap → Prop} {l0 l1 l2 l3 l4 l5 l6 l7 l8 l9 l10 l11 l12 l13 l14 l15 l16 l17 l18 l19 l20 l21 l22 l23 : Slot} {J1 : Int64} {v : Int32}
theorem own_law_203 (h : okP l21 l22) : M25 203 [l0, l1, l2, l3, l4, l5, l6, l7, l8, l9, l10, l11, l12, l13, l14, l15, l16, l17, l18, l19, l20, l21, l22, l23] (.long J1 :: st) H Q = M25 205 [l0, l1, l2, l3, l4, l5, l6, l7, l8, l9, l10, l11, l12, l13, l14, l15, l16, l17, l18, l19, l20, .val (.long J1), .second, l23] st H Q := by
  rcases h with ⟨h, h'⟩ | ⟨J, rfl, rfl⟩
  · rcases h with rfl | ⟨z, rfl⟩ <;> rcases h' with rfl | ⟨y, rfl⟩ <;> exact w_x (show decode kb25 203 = .ok (.lstore 21, 2) from by decide +kernel) rfl
  · exact w_x (show decode kb25 203 = .ok (.lstore 21, 2) from by decide +kernel) rfl
theorem own_law_165 (h : okP l21 l22) : ∃ k, okS k ∧ M25 165 [l0, l1, l2, l3, l4, l5, l6, l7, l8, l9, l10, l11, l12, l13, l14, l15, l16, l17, l18, l19, l20, l21, l22, l23] (.int v :: st) H Q = M25 167 [l0, l1, l2, l3, l4, l5, l6, l7, l8, l9, l10, l11, l12, l13, l14, l15, l16, l17, l18, l19, l20, .val (.int v), k, l23] st H Q := by
  rcases h with ⟨h, h'⟩ | ⟨J, rfl, rfl⟩
  · refine ⟨_, h', ?_⟩
    rcases h with rfl | ⟨z, rfl⟩ <;> exact w_x (show decode kb25 165 = .ok (.istore 21, 2) from by decide +kernel) rfl
  · exact ⟨_, okS_u, w_x (show decode kb25 165 = .ok (.istore 21, 2) from by decide +kernel) rfl⟩
theorem own_law_418 (h : okP l21 l22) : ∃ k, okS k ∧ M25 418 [l0, l1, l2, l3, l4, l5, l6, l7, l8, l9, l10, l11, l12, l13, l14, l15, l16, l17, l18, l19, l20, l21, l22, l23] (.int v :: st) H Q = M25 420 [l0, l1, l2, l3, l4, l5, l6, l7, l8, l9, l10, l11, l12, l13, l14, l15, l16, l17, l18, l19, l20, .val (.int v), k, l23] st H Q := by
  rcases h with ⟨h, h'⟩ | ⟨J, rfl, rfl⟩
  · refine ⟨_, h', ?_⟩
    rcases h with rfl | ⟨z, rfl⟩ <;> exact w_x (show decode kb25 418 = .ok (.istore 21, 2) from by decide +kernel) rfl
  · exact ⟨_, okS_u, w_x (show decode kb25 418 = .ok (.istore 21, 2) from by decide +kernel) rfl⟩
end St
section Sta
variable {vs : List Int32} {H : AHeap} {Q : Option Value → AHeap → Prop} {s : Nat → Int32} {A : Nat → List Int32} {al cap n m : Nat} {w p : Nat → Nat} {x0 x1 x2 x3 : Int64}
set_option maxRecDepth 1000000 in
set_option maxHeartbeats 20000000 in
theorem cellR {R : AHeap} {j : Nat} (hlen : vs.length ≤ 260) (hj : j ≤ 1000) (hq : ∀ v : Int32, Q (some (.int v)) ((.array .int, vs.map Value.int) :: R)) : M21 0 [.val (.ref 0), .val (.int (nI j))] [] ((.array .int, vs.map Value.int) :: R) Q := by
  by_cases h : j < vs.length
  · have h1 : (nI j < vs.length.toInt32) = True := lT (c := vs.length) h (by omega)
    have x0 : inB (nI j) vs := nI_in h (by omega)
    simp [h1, x0, m21_0, m21_1, m21_2, m21_2p, m21_3, m21_6, m21_7, m21_8, m21_8p, m21_9, m21_12, m21_13, nb0, nb1, ou_a, Option.toList_some, Option.toList_none, List.nil_append, List.cons_append]
    exact hq _
  · have h1 : (nI j < vs.length.toInt32) = False := lF (c := vs.length) (by omega) (by omega)
    simp [h1, m21_0, m21_1, m21_2, m21_2p, m21_3, m21_6, m21_7, m21_8, m21_8p, m21_9, m21_12, m21_13, nb0, nb1, ou_a, Option.toList_some, Option.toList_none, List.nil_append, List.cons_append]
    exact hq _
theorem cellW {j : Nat} (hlen : vs.length ≤ 260) (hj : j ≤ 1000) (hq : ∀ v : Int32, Q (some (.int v)) (put 1 [((FieldType.array .int, vs.map Value.int) : FieldType × List Value)] s A [])) : M21 0 [.val (.ref 0), .val (.int (nI j))] [] (put 1 [((FieldType.array .int, vs.map Value.int) : FieldType × List Value)] s A []) Q := by
  by_cases h : j < vs.length
  · have h1 : (nI j < vs.length.toInt32) = True := lT (c := vs.length) h (by omega)
    have x0 : inB (nI j) vs := nI_in h (by omega)
    simp [h1, x0, m21_0, m21_1, m21_2, m21_2p, m21_3, m21_6, m21_7, m21_8, m21_8p, m21_9, m21_12, m21_13, nb0, nb1, ou_a, Option.toList_some, Option.toList_none, List.nil_append, List.cons_append]
    exact hq _
  · have h1 : (nI j < vs.length.toInt32) = False := lF (c := vs.length) (by omega) (by omega)
    simp [h1, m21_0, m21_1, m21_2, m21_2p, m21_3, m21_6, m21_7, m21_8, m21_8p, m21_9, m21_12, m21_13, nb0, nb1, ou_a, Option.toList_some, Option.toList_none, List.nil_append, List.cons_append]
    exact hq _
set_option maxRecDepth 1000000 in
set_option maxHeartbeats 20000000 in
theorem modW {x : Int32} {m : Nat} (m0 : 0 < m) (m1 : m ≤ 1000) (hq : ∀ k, k < m → Q (some (.int (nI k))) H) : M22 0 [.val (.int (x)), .val (.int (nI m)), .unset] [] H Q := by
  have nz : (nI m = 0) = False := n0T m0 (by omega)
  have hq := hq _ (md_e x m0 m1).1
  rw [← (md_e x m0 m1).2] at hq
  unfold mdI at hq
  by_cases h : x % nI m < 0
  · rw [if_pos h] at hq
    simp [h, nz, m22_0, m22_1, m22_2, m22_3u, m22_4, m22_5, m22_8, m22_9, m22_10, m22_11, m22_14, m22_15, nb0, nb1, ou_a, Option.toList_some, Option.toList_none, List.nil_append, List.cons_append]
    exact hq
  · rw [if_neg h] at hq
    simp [h, nz, m22_0, m22_1, m22_2, m22_3u, m22_4, m22_5, m22_8, m22_9, m22_10, m22_11, m22_14, m22_15, nb0, nb1, ou_a, Option.toList_some, Option.toList_none, List.nil_append, List.cons_append]
    exact hq
theorem gtW {j : Nat} (h : PQ x0 x1 x2 x3 m p) (hj : j < m) (hm : m ≤ 64) (hp : p j < 8) (hq : Q (some (.int (nI (p j)))) H) : M24 0 [.val (.long x0), .second, .val (.long x1), .second, .val (.long x2), .second, .val (.long x3), .second, .val (.int (nI j)), .unset, .unset] [] H Q := by
  have ej := a15 (m := j) (by omega)
  by_cases c0 : j < 16
  · have d0 : (nI j < 16) = True := lT (c := 16) c0 (by decide)
    obtain ⟨Z, hZ⟩ : ∃ Z, XT.ushrL x0 (3 * nI (j % 16)) &&& 7 = Z := ⟨_, rfl⟩
    have g : Z.toInt32 = nI (p j) := by rw [← hZ, show j % 16 = j by omega]; exact F3_g h.1 (by omega) (by omega) hp
    simp [d0, ej, hZ, g, m24_0, m24_2, m24_4, m24_7, m24_8, m24_11, m24_13, m24_15, m24_18, m24_19, m24_22, m24_24, m24_26, m24_29, m24_31, m24_34, m24_36, m24_38, m24_40, m24_41, m24_43, m24_45, m24_46, m24_47, m24_48, m24_51, m24_52, m24_53, nb0, nb1, ou_a, Option.toList_some, Option.toList_none, List.nil_append, List.cons_append]
    exact hq
  have d0 : (nI j < 16) = False := lF (c := 16) (by omega) (by omega)
  by_cases c1 : j < 32
  · have d1 : (nI j < 32) = True := lT (c := 32) c1 (by decide)
    obtain ⟨Z, hZ⟩ : ∃ Z, XT.ushrL x1 (3 * nI (j % 16)) &&& 7 = Z := ⟨_, rfl⟩
    have g : Z.toInt32 = nI (p j) := by
      have := F3_g (i := j - 16) h.2.1 (by omega) (by omega) (by show p (16 + (j - 16)) < 8; rw [show 16 + (j - 16) = j by omega]; exact hp)
      rw [show p (16 + (j - 16)) = p j by rw [show 16 + (j - 16) = j by omega]] at this
      rw [← hZ, show j % 16 = j - 16 by omega]; exact this
    simp [d0, d1, ej, hZ, g, m24_0, m24_2, m24_4, m24_7, m24_8, m24_11, m24_13, m24_15, m24_18, m24_19, m24_22, m24_24, m24_26, m24_29, m24_31, m24_34, m24_36, m24_38, m24_40, m24_41, m24_43, m24_45, m24_46, m24_47, m24_48, m24_51, m24_52, m24_53, nb0, nb1, ou_a, Option.toList_some, Option.toList_none, List.nil_append, List.cons_append]
    exact hq
  have d1 : (nI j < 32) = False := lF (c := 32) (by omega) (by omega)
  by_cases c2 : j < 48
  · have d2 : (nI j < 48) = True := lT (c := 48) c2 (by decide)
    obtain ⟨Z, hZ⟩ : ∃ Z, XT.ushrL x2 (3 * nI (j % 16)) &&& 7 = Z := ⟨_, rfl⟩
    have g : Z.toInt32 = nI (p j) := by
      have := F3_g (i := j - 32) h.2.2.1 (by omega) (by omega) (by show p (32 + (j - 32)) < 8; rw [show 32 + (j - 32) = j by omega]; exact hp)
      rw [show p (32 + (j - 32)) = p j by rw [show 32 + (j - 32) = j by omega]] at this
      rw [← hZ, show j % 16 = j - 32 by omega]; exact this
    simp [d0, d1, d2, ej, hZ, g, m24_0, m24_2, m24_4, m24_7, m24_8, m24_11, m24_13, m24_15, m24_18, m24_19, m24_22, m24_24, m24_26, m24_29, m24_31, m24_34, m24_36, m24_38, m24_40, m24_41, m24_43, m24_45, m24_46, m24_47, m24_48, m24_51, m24_52, m24_53, nb0, nb1, ou_a, Option.toList_some, Option.toList_none, List.nil_append, List.cons_append]
    exact hq
  have d2 : (nI j < 48) = False := lF (c := 48) (by omega) (by omega)
  obtain ⟨Z, hZ⟩ : ∃ Z, XT.ushrL x3 (3 * nI (j % 16)) &&& 7 = Z := ⟨_, rfl⟩
  have g : Z.toInt32 = nI (p j) := by
    have := F3_g (i := j - 48) h.2.2.2 (by omega) (by omega) (by show p (48 + (j - 48)) < 8; rw [show 48 + (j - 48) = j by omega]; exact hp)
    rw [show p (48 + (j - 48)) = p j by rw [show 48 + (j - 48) = j by omega]] at this
    rw [← hZ, show j % 16 = j - 48 by omega]; exact this
  simp [d0, d1, d2, ej, hZ, g, m24_0, m24_2, m24_4, m24_7, m24_8, m24_11, m24_13, m24_15, m24_18, m24_19, m24_22, m24_24, m24_26, m24_29, m24_31, m24_34, m24_36, m24_38, m24_40, m24_41, m24_43, m24_45, m24_46, m24_47, m24_48, m24_51, m24_52, m24_53, nb0, nb1, ou_a, Option.toList_some, Option.toList_none, List.nil_append, List.cons_append]
  exact hq
theorem syW {i : Nat} (h : OX al cap n m w p s A) (hi : i ≤ 1000) (h1 : i < n → w i < al → Q (some (.int (nI (w i)))) (put 1 [((FieldType.array .int, vs.map Value.int) : FieldType × List Value)] s A [])) (h0 : n ≤ i → Q (some (.int (-1))) (put 1 [((FieldType.array .int, vs.map Value.int) : FieldType × List Value)] s A [])) : M12 0 [.val (.ref 1), .val (.int (nI i))] [] (put 1 [((FieldType.array .int, vs.map Value.int) : FieldType × List Value)] s A []) Q := by
  obtain ⟨N, lab, lk, nx, fe, cl, last, h⟩ := h
  have s2 := h.s2
  have n6 : n ≤ 64 := Nat.le_trans h.nc h.cp
  have c1 : (nI i < 0) = False := nnF (by omega)
  by_cases z : i < n
  · have z1 : (nI i < nI n) = True := lT z (by omega)
    have q0 := in0 h.sk.tb.ln (i := i) (by omega)
    have v0 := h.a0 i z
    simp [c1, s2, z1, q0, v0, m12_0, m12_1, m12_4, m12_5, m12_6, m12_9, m12_12, m12_13, m12_14, m12_15, m12_18, m12_19, m12_20, nb0, nb1, ou_a, Option.toList_some, Option.toList_none, List.nil_append, List.cons_append]
    exact h1 z (h.wl i z)
  · have z1 : (nI i < nI n) = False := lF (by omega) (by omega)
    simp [c1, s2, z1, m12_0, m12_1, m12_4, m12_5, m12_6, m12_9, m12_12, m12_13, m12_14, m12_15, m12_18, m12_19, m12_20, nb0, nb1, ou_a, Option.toList_some, Option.toList_none, List.nil_append, List.cons_append]
    exact h0 (by omega)
end Sta
section Law
variable {vs : List Int32} {Q : Option Value → AHeap → Prop} {s : Nat → Int32} {A : Nat → List Int32} {al cap n m cu en t : Nat} {w p : Nat → Nat} {x0 x1 x2 x3 : Int64} {l1 l2 l17 l18 l19 l20 l21 l22 l23 : Slot}
/-- the earliest match among the first i -/
def FO (w p : Nat → Nat) (m i : Nat) (v : Int32) : Prop := (v = -1 ∧ ∀ j, j < i → MT w p m j = false) ∨ ∃ j, j < i ∧ v = nI j ∧ MT w p m j = true ∧ ∀ k, k < j → MT w p m k = false
theorem cB_z {P : Nat → Bool} : ∀ k, (∀ i, i < k → P i = false) → cB P k = 0 := by
  intro k
  induction k with
  | zero => intro _; rfl
  | succ k ih => intro h; rw [cB, ih (fun i hi => h i (by omega)), if_neg (by rw [h k (by omega)]; decide)]
theorem cB_p {P : Nat → Bool} {i : Nat} : ∀ k, i < k → P i = true → 0 < cB P k := by
  intro k
  induction k with
  | zero => intro h; omega
  | succ k ih =>
    intro h hp
    rw [cB]
    by_cases e : i = k
    · rw [← e, if_pos hp]; omega
    · have := ih (by omega) hp; omega
theorem al8 (h : OX al cap n m w p s A) : (2 ≤ al ∧ al ≤ 8) ∧ n ≤ 64 ∧ m ≤ 64 ∧ (∀ i, i < m → p i < al) ∧ (∀ i, i < n → w i < al) := by
  obtain ⟨N, lab, lk, nx, fe, cl, last, h⟩ := h
  exact ⟨h.al, Nat.le_trans h.nc h.cp, h.m6, h.pl, h.wl⟩
set_option maxRecDepth 1000000 in
set_option maxHeartbeats 20000000 in
theorem ckJ {i cn : Nat} {fo : Int32} (h : OX al cap n m w p s A) (hp : PQ x0 x1 x2 x3 m p) (hi : i + m ≤ n) (h1 : MT w p m i = true → M25 481 [.val (.ref 0), l1, l2, .val (.int (nI al)), .val (.ref 1), .val (.long x0), .second, .val (.long x1), .second, .val (.long x2), .second, .val (.long x3), .second, .val (.int (nI m)), .val (.int (nI cu)), .val (.int (nI en)), .val (.int (nI t)), .val (.int (nI n)), .val (.int (nI m)), .val (.int (nI cn)), .val (.int (fo)), .val (.int (nI i)), .val (.int 1), .val (.int (nI m))] [] (put 1 [((FieldType.array .int, vs.map Value.int) : FieldType × List Value)] s A []) Q) (h0 : MT w p m i = false → ∀ j, M25 481 [.val (.ref 0), l1, l2, .val (.int (nI al)), .val (.ref 1), .val (.long x0), .second, .val (.long x1), .second, .val (.long x2), .second, .val (.long x3), .second, .val (.int (nI m)), .val (.int (nI cu)), .val (.int (nI en)), .val (.int (nI t)), .val (.int (nI n)), .val (.int (nI m)), .val (.int (nI cn)), .val (.int (fo)), .val (.int (nI i)), .val (.int 0), .val (.int (nI j))] [] (put 1 [((FieldType.array .int, vs.map Value.int) : FieldType × List Value)] s A []) Q) : ∀ (r j : Nat), j + r = m → (∀ k, k < j → w (i + k) = p k) → M25 436 [.val (.ref 0), l1, l2, .val (.int (nI al)), .val (.ref 1), .val (.long x0), .second, .val (.long x1), .second, .val (.long x2), .second, .val (.long x3), .second, .val (.int (nI m)), .val (.int (nI cu)), .val (.int (nI en)), .val (.int (nI t)), .val (.int (nI n)), .val (.int (nI m)), .val (.int (nI cn)), .val (.int (fo)), .val (.int (nI i)), .val (.int 1), .val (.int (nI j))] [] (put 1 [((FieldType.array .int, vs.map Value.int) : FieldType × List Value)] s A []) Q := by
  obtain ⟨a8, n6, m6, pl, wl⟩ := al8 h
  intro r
  induction r with
  | zero =>
    intro j e ha
    obtain rfl : j = m := by omega
    have c1 : (nI j < nI j) = False := lF (by omega) (by omega)
    rw [m25_436]
    simp [c1, m25_0, m25_1, m25_2, m25_5, m25_7, m25_10u, m25_11, m25_12, m25_13, m25_16, m25_18, m25_21u, m25_22, m25_23, m25_26u, m25_27, m25_30, m25_31, m25_32, m25_33, m25_36u, m25_38, m25_39, m25_41, m25_42, m25_44, m25_45, m25_47, m25_48, m25_50, m25_51u, m25_53, m25_54u, m25_56, m25_57, m25_57p, m25_58, m25_59, m25_62, m25_63, m25_66, m25_67, m25_67p, m25_68u, m25_70, m25_71u, m25_75, m25_77, m25_80, m25_82, m25_83, m25_86, m25_87, m25_89, m25_89p, m25_90u, m25_90i, m25_90r, m25_90g, m25_92, m25_94, m25_96, m25_97u, m25_97i, m25_97r, m25_97g, m25_99, m25_101, m25_102, m25_103u, m25_103i, m25_103r, m25_103g, m25_105, m25_107, m25_108, m25_111, m25_113, m25_115, m25_116, m25_117, m25_120, m25_121, m25_124, m25_126, m25_127, m25_130, m25_132, m25_133, m25_136, m25_138, m25_140, m25_143, m25_145, m25_146, m25_147u, m25_147i, m25_147r, m25_147g, m25_149, m25_151, m25_152, m25_155, m25_157, m25_159, m25_161, m25_162, m25_165u, m25_165i, m25_165r, m25_165g, m25_167, m25_169, m25_172, m25_174, m25_175, m25_178, m25_180i, m25_182, m25_184, m25_186, m25_189, m25_192, m25_194, m25_195, m25_196, m25_198, m25_200, m25_201, m25_202, m25_203, m25_205, m25_207, m25_209, m25_212, m25_214, m25_216, m25_217, m25_219, m25_222, m25_224, m25_226, m25_229, m25_231, m25_233, m25_234, m25_236, m25_239, m25_241, m25_243, m25_246, m25_248, m25_250, m25_251, m25_253, m25_256, m25_258, m25_260, m25_261, m25_263, m25_266, m25_269, m25_271, m25_272, m25_275, m25_277, m25_280, m25_281, m25_283, m25_284, m25_286, m25_287, m25_289, m25_290, m25_292, m25_293i, m25_295, m25_297, m25_299, m25_302, m25_303, m25_304, m25_305i, m25_307, m25_310, m25_312, m25_314, m25_317, m25_319, m25_321, m25_322, m25_325, m25_327, m25_330, m25_331, m25_333, m25_334, m25_336, m25_337, m25_339, m25_340, m25_342, m25_343i, m25_345, m25_346i, m25_348, m25_351, m25_353, m25_355, m25_356, m25_357, m25_360, m25_361, m25_364, m25_366, m25_367, m25_368, m25_371, m25_373, m25_376, m25_378, m25_380, m25_381, m25_382, m25_383, m25_384, m25_387, m25_388, m25_390, m25_393u, m25_393i, m25_393r, m25_393g, m25_395, m25_397, m25_400u, m25_400i, m25_400r, m25_400g, m25_402, m25_404, m25_406, m25_409, m25_410, m25_411, m25_412u, m25_412i, m25_412r, m25_412g, m25_414, m25_415u, m25_415i, m25_415r, m25_415g, m25_417, m25_418u, m25_418i, m25_418r, m25_418g, m25_422, m25_424, m25_425, m25_427, m25_430, m25_431u, m25_431i, m25_431r, m25_431g, m25_433, m25_434u, m25_434i, m25_434r, m25_434g, m25_438, m25_440, m25_443, m25_445, m25_447, m25_449, m25_450, m25_453, m25_455, m25_457, m25_459, m25_461, m25_463, m25_466, m25_469, m25_470i, m25_472, m25_475, m25_478, m25_483, m25_486, m25_489, m25_491, m25_494, m25_496i, m25_498, m25_501, m25_504, m25_506, m25_509, m25_511, m25_514, m25_515, m25_516, m25_518, m25_521, m25_523, m25_524, m25_527, m25_528, m25_531, m25_532, m25_535, m25_536, m25_537, m25_539, m25_542, m25_544, m25_547, m25_548, m25_549, m25_552, m25_555, m25_556, nb0, nb1, ou_a, Option.toList_some, Option.toList_none, List.nil_append, List.cons_append]
    exact h1 (decide_eq_true ((tx_iff j i).mpr ha))
  | succ r ih =>
    intro j e ha
    have c1 : (nI j < nI m) = True := lT (by omega) (by omega)
    have wj := wl (i + j) (by omega)
    have pj := pl j (by omega)
    rw [m25_436]
    simp [c1, nI_add, m25_0, m25_1, m25_2, m25_5, m25_7, m25_10u, m25_11, m25_12, m25_13, m25_16, m25_18, m25_21u, m25_22, m25_23, m25_26u, m25_27, m25_30, m25_31, m25_32, m25_33, m25_36u, m25_38, m25_39, m25_41, m25_42, m25_44, m25_45, m25_47, m25_48, m25_50, m25_51u, m25_53, m25_54u, m25_56, m25_57, m25_57p, m25_58, m25_59, m25_62, m25_63, m25_66, m25_67, m25_67p, m25_68u, m25_70, m25_71u, m25_75, m25_77, m25_80, m25_82, m25_83, m25_86, m25_87, m25_89, m25_89p, m25_90u, m25_90i, m25_90r, m25_90g, m25_92, m25_94, m25_96, m25_97u, m25_97i, m25_97r, m25_97g, m25_99, m25_101, m25_102, m25_103u, m25_103i, m25_103r, m25_103g, m25_105, m25_107, m25_108, m25_111, m25_113, m25_115, m25_116, m25_117, m25_120, m25_121, m25_124, m25_126, m25_127, m25_130, m25_132, m25_133, m25_136, m25_138, m25_140, m25_143, m25_145, m25_146, m25_147u, m25_147i, m25_147r, m25_147g, m25_149, m25_151, m25_152, m25_155, m25_157, m25_159, m25_161, m25_162, m25_165u, m25_165i, m25_165r, m25_165g, m25_167, m25_169, m25_172, m25_174, m25_175, m25_178, m25_180i, m25_182, m25_184, m25_186, m25_189, m25_192, m25_194, m25_195, m25_196, m25_198, m25_200, m25_201, m25_202, m25_203, m25_205, m25_207, m25_209, m25_212, m25_214, m25_216, m25_217, m25_219, m25_222, m25_224, m25_226, m25_229, m25_231, m25_233, m25_234, m25_236, m25_239, m25_241, m25_243, m25_246, m25_248, m25_250, m25_251, m25_253, m25_256, m25_258, m25_260, m25_261, m25_263, m25_266, m25_269, m25_271, m25_272, m25_275, m25_277, m25_280, m25_281, m25_283, m25_284, m25_286, m25_287, m25_289, m25_290, m25_292, m25_293i, m25_295, m25_297, m25_299, m25_302, m25_303, m25_304, m25_305i, m25_307, m25_310, m25_312, m25_314, m25_317, m25_319, m25_321, m25_322, m25_325, m25_327, m25_330, m25_331, m25_333, m25_334, m25_336, m25_337, m25_339, m25_340, m25_342, m25_343i, m25_345, m25_346i, m25_348, m25_351, m25_353, m25_355, m25_356, m25_357, m25_360, m25_361, m25_364, m25_366, m25_367, m25_368, m25_371, m25_373, m25_376, m25_378, m25_380, m25_381, m25_382, m25_383, m25_384, m25_387, m25_388, m25_390, m25_393u, m25_393i, m25_393r, m25_393g, m25_395, m25_397, m25_400u, m25_400i, m25_400r, m25_400g, m25_402, m25_404, m25_406, m25_409, m25_410, m25_411, m25_412u, m25_412i, m25_412r, m25_412g, m25_414, m25_415u, m25_415i, m25_415r, m25_415g, m25_417, m25_418u, m25_418i, m25_418r, m25_418g, m25_422, m25_424, m25_425, m25_427, m25_430, m25_431u, m25_431i, m25_431r, m25_431g, m25_433, m25_434u, m25_434i, m25_434r, m25_434g, m25_438, m25_440, m25_443, m25_445, m25_447, m25_449, m25_450, m25_453, m25_455, m25_457, m25_459, m25_461, m25_463, m25_466, m25_469, m25_470i, m25_472, m25_475, m25_478, m25_483, m25_486, m25_489, m25_491, m25_494, m25_496i, m25_498, m25_501, m25_504, m25_506, m25_509, m25_511, m25_514, m25_515, m25_516, m25_518, m25_521, m25_523, m25_524, m25_527, m25_528, m25_531, m25_532, m25_535, m25_536, m25_537, m25_539, m25_542, m25_544, m25_547, m25_548, m25_549, m25_552, m25_555, m25_556, nb0, nb1, ou_a, Option.toList_some, Option.toList_none, List.nil_append, List.cons_append]
    refine syW h (by omega) (fun _ _ => ?_) (fun q => absurd q (by omega))
    simp [m25_0, m25_1, m25_2, m25_5, m25_7, m25_10u, m25_11, m25_12, m25_13, m25_16, m25_18, m25_21u, m25_22, m25_23, m25_26u, m25_27, m25_30, m25_31, m25_32, m25_33, m25_36u, m25_38, m25_39, m25_41, m25_42, m25_44, m25_45, m25_47, m25_48, m25_50, m25_51u, m25_53, m25_54u, m25_56, m25_57, m25_57p, m25_58, m25_59, m25_62, m25_63, m25_66, m25_67, m25_67p, m25_68u, m25_70, m25_71u, m25_75, m25_77, m25_80, m25_82, m25_83, m25_86, m25_87, m25_89, m25_89p, m25_90u, m25_90i, m25_90r, m25_90g, m25_92, m25_94, m25_96, m25_97u, m25_97i, m25_97r, m25_97g, m25_99, m25_101, m25_102, m25_103u, m25_103i, m25_103r, m25_103g, m25_105, m25_107, m25_108, m25_111, m25_113, m25_115, m25_116, m25_117, m25_120, m25_121, m25_124, m25_126, m25_127, m25_130, m25_132, m25_133, m25_136, m25_138, m25_140, m25_143, m25_145, m25_146, m25_147u, m25_147i, m25_147r, m25_147g, m25_149, m25_151, m25_152, m25_155, m25_157, m25_159, m25_161, m25_162, m25_165u, m25_165i, m25_165r, m25_165g, m25_167, m25_169, m25_172, m25_174, m25_175, m25_178, m25_180i, m25_182, m25_184, m25_186, m25_189, m25_192, m25_194, m25_195, m25_196, m25_198, m25_200, m25_201, m25_202, m25_203, m25_205, m25_207, m25_209, m25_212, m25_214, m25_216, m25_217, m25_219, m25_222, m25_224, m25_226, m25_229, m25_231, m25_233, m25_234, m25_236, m25_239, m25_241, m25_243, m25_246, m25_248, m25_250, m25_251, m25_253, m25_256, m25_258, m25_260, m25_261, m25_263, m25_266, m25_269, m25_271, m25_272, m25_275, m25_277, m25_280, m25_281, m25_283, m25_284, m25_286, m25_287, m25_289, m25_290, m25_292, m25_293i, m25_295, m25_297, m25_299, m25_302, m25_303, m25_304, m25_305i, m25_307, m25_310, m25_312, m25_314, m25_317, m25_319, m25_321, m25_322, m25_325, m25_327, m25_330, m25_331, m25_333, m25_334, m25_336, m25_337, m25_339, m25_340, m25_342, m25_343i, m25_345, m25_346i, m25_348, m25_351, m25_353, m25_355, m25_356, m25_357, m25_360, m25_361, m25_364, m25_366, m25_367, m25_368, m25_371, m25_373, m25_376, m25_378, m25_380, m25_381, m25_382, m25_383, m25_384, m25_387, m25_388, m25_390, m25_393u, m25_393i, m25_393r, m25_393g, m25_395, m25_397, m25_400u, m25_400i, m25_400r, m25_400g, m25_402, m25_404, m25_406, m25_409, m25_410, m25_411, m25_412u, m25_412i, m25_412r, m25_412g, m25_414, m25_415u, m25_415i, m25_415r, m25_415g, m25_417, m25_418u, m25_418i, m25_418r, m25_418g, m25_422, m25_424, m25_425, m25_427, m25_430, m25_431u, m25_431i, m25_431r, m25_431g, m25_433, m25_434u, m25_434i, m25_434r, m25_434g, m25_438, m25_440, m25_443, m25_445, m25_447, m25_449, m25_450, m25_453, m25_455, m25_457, m25_459, m25_461, m25_463, m25_466, m25_469, m25_470i, m25_472, m25_475, m25_478, m25_483, m25_486, m25_489, m25_491, m25_494, m25_496i, m25_498, m25_501, m25_504, m25_506, m25_509, m25_511, m25_514, m25_515, m25_516, m25_518, m25_521, m25_523, m25_524, m25_527, m25_528, m25_531, m25_532, m25_535, m25_536, m25_537, m25_539, m25_542, m25_544, m25_547, m25_548, m25_549, m25_552, m25_555, m25_556, nb0, nb1, ou_a, Option.toList_some, Option.toList_none, List.nil_append, List.cons_append]
    refine gtW hp (by omega) m6 (by omega) ?_
    by_cases y : w (i + j) = p j
    · have y1 : (nI (w (i + j)) = nI (p j)) = True := eT y
      simp [y1, nI_1, m25_0, m25_1, m25_2, m25_5, m25_7, m25_10u, m25_11, m25_12, m25_13, m25_16, m25_18, m25_21u, m25_22, m25_23, m25_26u, m25_27, m25_30, m25_31, m25_32, m25_33, m25_36u, m25_38, m25_39, m25_41, m25_42, m25_44, m25_45, m25_47, m25_48, m25_50, m25_51u, m25_53, m25_54u, m25_56, m25_57, m25_57p, m25_58, m25_59, m25_62, m25_63, m25_66, m25_67, m25_67p, m25_68u, m25_70, m25_71u, m25_75, m25_77, m25_80, m25_82, m25_83, m25_86, m25_87, m25_89, m25_89p, m25_90u, m25_90i, m25_90r, m25_90g, m25_92, m25_94, m25_96, m25_97u, m25_97i, m25_97r, m25_97g, m25_99, m25_101, m25_102, m25_103u, m25_103i, m25_103r, m25_103g, m25_105, m25_107, m25_108, m25_111, m25_113, m25_115, m25_116, m25_117, m25_120, m25_121, m25_124, m25_126, m25_127, m25_130, m25_132, m25_133, m25_136, m25_138, m25_140, m25_143, m25_145, m25_146, m25_147u, m25_147i, m25_147r, m25_147g, m25_149, m25_151, m25_152, m25_155, m25_157, m25_159, m25_161, m25_162, m25_165u, m25_165i, m25_165r, m25_165g, m25_167, m25_169, m25_172, m25_174, m25_175, m25_178, m25_180i, m25_182, m25_184, m25_186, m25_189, m25_192, m25_194, m25_195, m25_196, m25_198, m25_200, m25_201, m25_202, m25_203, m25_205, m25_207, m25_209, m25_212, m25_214, m25_216, m25_217, m25_219, m25_222, m25_224, m25_226, m25_229, m25_231, m25_233, m25_234, m25_236, m25_239, m25_241, m25_243, m25_246, m25_248, m25_250, m25_251, m25_253, m25_256, m25_258, m25_260, m25_261, m25_263, m25_266, m25_269, m25_271, m25_272, m25_275, m25_277, m25_280, m25_281, m25_283, m25_284, m25_286, m25_287, m25_289, m25_290, m25_292, m25_293i, m25_295, m25_297, m25_299, m25_302, m25_303, m25_304, m25_305i, m25_307, m25_310, m25_312, m25_314, m25_317, m25_319, m25_321, m25_322, m25_325, m25_327, m25_330, m25_331, m25_333, m25_334, m25_336, m25_337, m25_339, m25_340, m25_342, m25_343i, m25_345, m25_346i, m25_348, m25_351, m25_353, m25_355, m25_356, m25_357, m25_360, m25_361, m25_364, m25_366, m25_367, m25_368, m25_371, m25_373, m25_376, m25_378, m25_380, m25_381, m25_382, m25_383, m25_384, m25_387, m25_388, m25_390, m25_393u, m25_393i, m25_393r, m25_393g, m25_395, m25_397, m25_400u, m25_400i, m25_400r, m25_400g, m25_402, m25_404, m25_406, m25_409, m25_410, m25_411, m25_412u, m25_412i, m25_412r, m25_412g, m25_414, m25_415u, m25_415i, m25_415r, m25_415g, m25_417, m25_418u, m25_418i, m25_418r, m25_418g, m25_422, m25_424, m25_425, m25_427, m25_430, m25_431u, m25_431i, m25_431r, m25_431g, m25_433, m25_434u, m25_434i, m25_434r, m25_434g, m25_438, m25_440, m25_443, m25_445, m25_447, m25_449, m25_450, m25_453, m25_455, m25_457, m25_459, m25_461, m25_463, m25_466, m25_469, m25_470i, m25_472, m25_475, m25_478, m25_483, m25_486, m25_489, m25_491, m25_494, m25_496i, m25_498, m25_501, m25_504, m25_506, m25_509, m25_511, m25_514, m25_515, m25_516, m25_518, m25_521, m25_523, m25_524, m25_527, m25_528, m25_531, m25_532, m25_535, m25_536, m25_537, m25_539, m25_542, m25_544, m25_547, m25_548, m25_549, m25_552, m25_555, m25_556, nb0, nb1, ou_a, Option.toList_some, Option.toList_none, List.nil_append, List.cons_append]
      refine ih (j + 1) (by omega) (fun k hk => ?_)
      by_cases q : k = j
      · rw [q]; exact y
      · exact ha k (by omega)
    · have y1 : (nI (w (i + j)) = nI (p j)) = False := eF y (by omega) (by omega)
      simp [y1, m25_0, m25_1, m25_2, m25_5, m25_7, m25_10u, m25_11, m25_12, m25_13, m25_16, m25_18, m25_21u, m25_22, m25_23, m25_26u, m25_27, m25_30, m25_31, m25_32, m25_33, m25_36u, m25_38, m25_39, m25_41, m25_42, m25_44, m25_45, m25_47, m25_48, m25_50, m25_51u, m25_53, m25_54u, m25_56, m25_57, m25_57p, m25_58, m25_59, m25_62, m25_63, m25_66, m25_67, m25_67p, m25_68u, m25_70, m25_71u, m25_75, m25_77, m25_80, m25_82, m25_83, m25_86, m25_87, m25_89, m25_89p, m25_90u, m25_90i, m25_90r, m25_90g, m25_92, m25_94, m25_96, m25_97u, m25_97i, m25_97r, m25_97g, m25_99, m25_101, m25_102, m25_103u, m25_103i, m25_103r, m25_103g, m25_105, m25_107, m25_108, m25_111, m25_113, m25_115, m25_116, m25_117, m25_120, m25_121, m25_124, m25_126, m25_127, m25_130, m25_132, m25_133, m25_136, m25_138, m25_140, m25_143, m25_145, m25_146, m25_147u, m25_147i, m25_147r, m25_147g, m25_149, m25_151, m25_152, m25_155, m25_157, m25_159, m25_161, m25_162, m25_165u, m25_165i, m25_165r, m25_165g, m25_167, m25_169, m25_172, m25_174, m25_175, m25_178, m25_180i, m25_182, m25_184, m25_186, m25_189, m25_192, m25_194, m25_195, m25_196, m25_198, m25_200, m25_201, m25_202, m25_203, m25_205, m25_207, m25_209, m25_212, m25_214, m25_216, m25_217, m25_219, m25_222, m25_224, m25_226, m25_229, m25_231, m25_233, m25_234, m25_236, m25_239, m25_241, m25_243, m25_246, m25_248, m25_250, m25_251, m25_253, m25_256, m25_258, m25_260, m25_261, m25_263, m25_266, m25_269, m25_271, m25_272, m25_275, m25_277, m25_280, m25_281, m25_283, m25_284, m25_286, m25_287, m25_289, m25_290, m25_292, m25_293i, m25_295, m25_297, m25_299, m25_302, m25_303, m25_304, m25_305i, m25_307, m25_310, m25_312, m25_314, m25_317, m25_319, m25_321, m25_322, m25_325, m25_327, m25_330, m25_331, m25_333, m25_334, m25_336, m25_337, m25_339, m25_340, m25_342, m25_343i, m25_345, m25_346i, m25_348, m25_351, m25_353, m25_355, m25_356, m25_357, m25_360, m25_361, m25_364, m25_366, m25_367, m25_368, m25_371, m25_373, m25_376, m25_378, m25_380, m25_381, m25_382, m25_383, m25_384, m25_387, m25_388, m25_390, m25_393u, m25_393i, m25_393r, m25_393g, m25_395, m25_397, m25_400u, m25_400i, m25_400r, m25_400g, m25_402, m25_404, m25_406, m25_409, m25_410, m25_411, m25_412u, m25_412i, m25_412r, m25_412g, m25_414, m25_415u, m25_415i, m25_415r, m25_415g, m25_417, m25_418u, m25_418i, m25_418r, m25_418g, m25_422, m25_424, m25_425, m25_427, m25_430, m25_431u, m25_431i, m25_431r, m25_431g, m25_433, m25_434u, m25_434i, m25_434r, m25_434g, m25_438, m25_440, m25_443, m25_445, m25_447, m25_449, m25_450, m25_453, m25_455, m25_457, m25_459, m25_461, m25_463, m25_466, m25_469, m25_470i, m25_472, m25_475, m25_478, m25_483, m25_486, m25_489, m25_491, m25_494, m25_496i, m25_498, m25_501, m25_504, m25_506, m25_509, m25_511, m25_514, m25_515, m25_516, m25_518, m25_521, m25_523, m25_524, m25_527, m25_528, m25_531, m25_532, m25_535, m25_536, m25_537, m25_539, m25_542, m25_544, m25_547, m25_548, m25_549, m25_552, m25_555, m25_556, nb0, nb1, ou_a, Option.toList_some, Option.toList_none, List.nil_append, List.cons_append]
      exact h0 (decide_eq_false (fun q => y ((tx_iff m i).mp q j (by omega)))) j
theorem ckI (h : OX al cap n m w p s A) (hp : PQ x0 x1 x2 x3 m p) (hq : ∀ fo l21 l22 l23, FO w p m (n + 1 - m) fo → okP l21 l22 → okS l23 → M25 504 [.val (.ref 0), l1, l2, .val (.int (nI al)), .val (.ref 1), .val (.long x0), .second, .val (.long x1), .second, .val (.long x2), .second, .val (.long x3), .second, .val (.int (nI m)), .val (.int (nI cu)), .val (.int (nI en)), .val (.int (nI t)), .val (.int (nI n)), .val (.int (nI m)), .val (.int (nI (cB (MT w p m) (n + 1 - m)))), .val (.int (fo)), l21, l22, l23] [] (put 1 [((FieldType.array .int, vs.map Value.int) : FieldType × List Value)] s A []) Q) : ∀ (r i : Nat) (fo : Int32) (l22 l23 : Slot), i + r = n + 1 - m → FO w p m i fo → okS l22 → okS l23 → M25 420 [.val (.ref 0), l1, l2, .val (.int (nI al)), .val (.ref 1), .val (.long x0), .second, .val (.long x1), .second, .val (.long x2), .second, .val (.long x3), .second, .val (.int (nI m)), .val (.int (nI cu)), .val (.int (nI en)), .val (.int (nI t)), .val (.int (nI n)), .val (.int (nI m)), .val (.int (nI (cB (MT w p m) i))), .val (.int (fo)), .val (.int (nI i)), l22, l23] [] (put 1 [((FieldType.array .int, vs.map Value.int) : FieldType × List Value)] s A []) Q := by
  obtain ⟨a8, n6, m6, pl, wl⟩ := al8 h
  intro r
  induction r with
  | zero =>
    intro i fo l22 l23 e hf o22 o23
    obtain rfl : i = n + 1 - m := by omega
    have c1 : (nI n < nI (n + 1 - m + m)) = True := lT (by omega) (by omega)
    rw [m25_420]
    simp [c1, nI_add, m25_0, m25_1, m25_2, m25_5, m25_7, m25_10u, m25_11, m25_12, m25_13, m25_16, m25_18, m25_21u, m25_22, m25_23, m25_26u, m25_27, m25_30, m25_31, m25_32, m25_33, m25_36u, m25_38, m25_39, m25_41, m25_42, m25_44, m25_45, m25_47, m25_48, m25_50, m25_51u, m25_53, m25_54u, m25_56, m25_57, m25_57p, m25_58, m25_59, m25_62, m25_63, m25_66, m25_67, m25_67p, m25_68u, m25_70, m25_71u, m25_75, m25_77, m25_80, m25_82, m25_83, m25_86, m25_87, m25_89, m25_89p, m25_90u, m25_90i, m25_90r, m25_90g, m25_92, m25_94, m25_96, m25_97u, m25_97i, m25_97r, m25_97g, m25_99, m25_101, m25_102, m25_103u, m25_103i, m25_103r, m25_103g, m25_105, m25_107, m25_108, m25_111, m25_113, m25_115, m25_116, m25_117, m25_120, m25_121, m25_124, m25_126, m25_127, m25_130, m25_132, m25_133, m25_136, m25_138, m25_140, m25_143, m25_145, m25_146, m25_147u, m25_147i, m25_147r, m25_147g, m25_149, m25_151, m25_152, m25_155, m25_157, m25_159, m25_161, m25_162, m25_165u, m25_165i, m25_165r, m25_165g, m25_167, m25_169, m25_172, m25_174, m25_175, m25_178, m25_180i, m25_182, m25_184, m25_186, m25_189, m25_192, m25_194, m25_195, m25_196, m25_198, m25_200, m25_201, m25_202, m25_203, m25_205, m25_207, m25_209, m25_212, m25_214, m25_216, m25_217, m25_219, m25_222, m25_224, m25_226, m25_229, m25_231, m25_233, m25_234, m25_236, m25_239, m25_241, m25_243, m25_246, m25_248, m25_250, m25_251, m25_253, m25_256, m25_258, m25_260, m25_261, m25_263, m25_266, m25_269, m25_271, m25_272, m25_275, m25_277, m25_280, m25_281, m25_283, m25_284, m25_286, m25_287, m25_289, m25_290, m25_292, m25_293i, m25_295, m25_297, m25_299, m25_302, m25_303, m25_304, m25_305i, m25_307, m25_310, m25_312, m25_314, m25_317, m25_319, m25_321, m25_322, m25_325, m25_327, m25_330, m25_331, m25_333, m25_334, m25_336, m25_337, m25_339, m25_340, m25_342, m25_343i, m25_345, m25_346i, m25_348, m25_351, m25_353, m25_355, m25_356, m25_357, m25_360, m25_361, m25_364, m25_366, m25_367, m25_368, m25_371, m25_373, m25_376, m25_378, m25_380, m25_381, m25_382, m25_383, m25_384, m25_387, m25_388, m25_390, m25_393u, m25_393i, m25_393r, m25_393g, m25_395, m25_397, m25_400u, m25_400i, m25_400r, m25_400g, m25_402, m25_404, m25_406, m25_409, m25_410, m25_411, m25_412u, m25_412i, m25_412r, m25_412g, m25_414, m25_415u, m25_415i, m25_415r, m25_415g, m25_417, m25_418u, m25_418i, m25_418r, m25_418g, m25_422, m25_424, m25_425, m25_427, m25_430, m25_431u, m25_431i, m25_431r, m25_431g, m25_433, m25_434u, m25_434i, m25_434r, m25_434g, m25_438, m25_440, m25_443, m25_445, m25_447, m25_449, m25_450, m25_453, m25_455, m25_457, m25_459, m25_461, m25_463, m25_466, m25_469, m25_470i, m25_472, m25_475, m25_478, m25_481, m25_483, m25_486, m25_489, m25_491, m25_494, m25_496i, m25_498, m25_501, m25_506, m25_509, m25_511, m25_514, m25_515, m25_516, m25_518, m25_521, m25_523, m25_524, m25_527, m25_528, m25_531, m25_532, m25_535, m25_536, m25_537, m25_539, m25_542, m25_544, m25_547, m25_548, m25_549, m25_552, m25_555, m25_556, nb0, nb1, ou_a, Option.toList_some, Option.toList_none, List.nil_append, List.cons_append]
    exact hq fo _ _ _ hf (okP_s (okS_n _) o22) o23
  | succ r ih =>
    intro i fo l22 l23 e hf o22 o23
    have c1 : (nI n < nI (i + m)) = False := lF (by omega) (by omega)
    rw [m25_420]
    simp [c1, nI_add, o22, o23, m25_0, m25_1, m25_2, m25_5, m25_7, m25_10u, m25_11, m25_12, m25_13, m25_16, m25_18, m25_21u, m25_22, m25_23, m25_26u, m25_27, m25_30, m25_31, m25_32, m25_33, m25_36u, m25_38, m25_39, m25_41, m25_42, m25_44, m25_45, m25_47, m25_48, m25_50, m25_51u, m25_53, m25_54u, m25_56, m25_57, m25_57p, m25_58, m25_59, m25_62, m25_63, m25_66, m25_67, m25_67p, m25_68u, m25_70, m25_71u, m25_75, m25_77, m25_80, m25_82, m25_83, m25_86, m25_87, m25_89, m25_89p, m25_90u, m25_90i, m25_90r, m25_90g, m25_92, m25_94, m25_96, m25_97u, m25_97i, m25_97r, m25_97g, m25_99, m25_101, m25_102, m25_103u, m25_103i, m25_103r, m25_103g, m25_105, m25_107, m25_108, m25_111, m25_113, m25_115, m25_116, m25_117, m25_120, m25_121, m25_124, m25_126, m25_127, m25_130, m25_132, m25_133, m25_136, m25_138, m25_140, m25_143, m25_145, m25_146, m25_147u, m25_147i, m25_147r, m25_147g, m25_149, m25_151, m25_152, m25_155, m25_157, m25_159, m25_161, m25_162, m25_165u, m25_165i, m25_165r, m25_165g, m25_167, m25_169, m25_172, m25_174, m25_175, m25_178, m25_180i, m25_182, m25_184, m25_186, m25_189, m25_192, m25_194, m25_195, m25_196, m25_198, m25_200, m25_201, m25_202, m25_203, m25_205, m25_207, m25_209, m25_212, m25_214, m25_216, m25_217, m25_219, m25_222, m25_224, m25_226, m25_229, m25_231, m25_233, m25_234, m25_236, m25_239, m25_241, m25_243, m25_246, m25_248, m25_250, m25_251, m25_253, m25_256, m25_258, m25_260, m25_261, m25_263, m25_266, m25_269, m25_271, m25_272, m25_275, m25_277, m25_280, m25_281, m25_283, m25_284, m25_286, m25_287, m25_289, m25_290, m25_292, m25_293i, m25_295, m25_297, m25_299, m25_302, m25_303, m25_304, m25_305i, m25_307, m25_310, m25_312, m25_314, m25_317, m25_319, m25_321, m25_322, m25_325, m25_327, m25_330, m25_331, m25_333, m25_334, m25_336, m25_337, m25_339, m25_340, m25_342, m25_343i, m25_345, m25_346i, m25_348, m25_351, m25_353, m25_355, m25_356, m25_357, m25_360, m25_361, m25_364, m25_366, m25_367, m25_368, m25_371, m25_373, m25_376, m25_378, m25_380, m25_381, m25_382, m25_383, m25_384, m25_387, m25_388, m25_390, m25_393u, m25_393i, m25_393r, m25_393g, m25_395, m25_397, m25_400u, m25_400i, m25_400r, m25_400g, m25_402, m25_404, m25_406, m25_409, m25_410, m25_411, m25_412u, m25_412i, m25_412r, m25_412g, m25_414, m25_415u, m25_415i, m25_415r, m25_415g, m25_417, m25_418u, m25_418i, m25_418r, m25_418g, m25_422, m25_424, m25_425, m25_427, m25_430, m25_431u, m25_431i, m25_431r, m25_431g, m25_433, m25_434u, m25_434i, m25_434r, m25_434g, m25_438, m25_440, m25_443, m25_445, m25_447, m25_449, m25_450, m25_453, m25_455, m25_457, m25_459, m25_461, m25_463, m25_466, m25_469, m25_470i, m25_472, m25_475, m25_478, m25_481, m25_483, m25_486, m25_489, m25_491, m25_494, m25_496i, m25_498, m25_501, m25_506, m25_509, m25_511, m25_514, m25_515, m25_516, m25_518, m25_521, m25_523, m25_524, m25_527, m25_528, m25_531, m25_532, m25_535, m25_536, m25_537, m25_539, m25_542, m25_544, m25_547, m25_548, m25_549, m25_552, m25_555, m25_556, nb0, nb1, ou_a, Option.toList_some, Option.toList_none, List.nil_append, List.cons_append]
    refine ckJ (i := i) (cn := cB (MT w p m) i) (fo := fo) h hp (by omega) (fun hm => ?_) (fun hm j => ?_) m 0 (by omega) (fun k hk => absurd hk (by omega))
    · have ec : cB (MT w p m) (i + 1) = cB (MT w p m) i + 1 := by rw [cB, if_pos hm]
      rcases hf with ⟨rfl, hf⟩ | ⟨j, hj, rfl, f1, f2⟩
      · simp [nI_1, m25_0, m25_1, m25_2, m25_5, m25_7, m25_10u, m25_11, m25_12, m25_13, m25_16, m25_18, m25_21u, m25_22, m25_23, m25_26u, m25_27, m25_30, m25_31, m25_32, m25_33, m25_36u, m25_38, m25_39, m25_41, m25_42, m25_44, m25_45, m25_47, m25_48, m25_50, m25_51u, m25_53, m25_54u, m25_56, m25_57, m25_57p, m25_58, m25_59, m25_62, m25_63, m25_66, m25_67, m25_67p, m25_68u, m25_70, m25_71u, m25_75, m25_77, m25_80, m25_82, m25_83, m25_86, m25_87, m25_89, m25_89p, m25_90u, m25_90i, m25_90r, m25_90g, m25_92, m25_94, m25_96, m25_97u, m25_97i, m25_97r, m25_97g, m25_99, m25_101, m25_102, m25_103u, m25_103i, m25_103r, m25_103g, m25_105, m25_107, m25_108, m25_111, m25_113, m25_115, m25_116, m25_117, m25_120, m25_121, m25_124, m25_126, m25_127, m25_130, m25_132, m25_133, m25_136, m25_138, m25_140, m25_143, m25_145, m25_146, m25_147u, m25_147i, m25_147r, m25_147g, m25_149, m25_151, m25_152, m25_155, m25_157, m25_159, m25_161, m25_162, m25_165u, m25_165i, m25_165r, m25_165g, m25_167, m25_169, m25_172, m25_174, m25_175, m25_178, m25_180i, m25_182, m25_184, m25_186, m25_189, m25_192, m25_194, m25_195, m25_196, m25_198, m25_200, m25_201, m25_202, m25_203, m25_205, m25_207, m25_209, m25_212, m25_214, m25_216, m25_217, m25_219, m25_222, m25_224, m25_226, m25_229, m25_231, m25_233, m25_234, m25_236, m25_239, m25_241, m25_243, m25_246, m25_248, m25_250, m25_251, m25_253, m25_256, m25_258, m25_260, m25_261, m25_263, m25_266, m25_269, m25_271, m25_272, m25_275, m25_277, m25_280, m25_281, m25_283, m25_284, m25_286, m25_287, m25_289, m25_290, m25_292, m25_293i, m25_295, m25_297, m25_299, m25_302, m25_303, m25_304, m25_305i, m25_307, m25_310, m25_312, m25_314, m25_317, m25_319, m25_321, m25_322, m25_325, m25_327, m25_330, m25_331, m25_333, m25_334, m25_336, m25_337, m25_339, m25_340, m25_342, m25_343i, m25_345, m25_346i, m25_348, m25_351, m25_353, m25_355, m25_356, m25_357, m25_360, m25_361, m25_364, m25_366, m25_367, m25_368, m25_371, m25_373, m25_376, m25_378, m25_380, m25_381, m25_382, m25_383, m25_384, m25_387, m25_388, m25_390, m25_393u, m25_393i, m25_393r, m25_393g, m25_395, m25_397, m25_400u, m25_400i, m25_400r, m25_400g, m25_402, m25_404, m25_406, m25_409, m25_410, m25_411, m25_412u, m25_412i, m25_412r, m25_412g, m25_414, m25_415u, m25_415i, m25_415r, m25_415g, m25_417, m25_418u, m25_418i, m25_418r, m25_418g, m25_422, m25_424, m25_425, m25_427, m25_430, m25_431u, m25_431i, m25_431r, m25_431g, m25_433, m25_434u, m25_434i, m25_434r, m25_434g, m25_438, m25_440, m25_443, m25_445, m25_447, m25_449, m25_450, m25_453, m25_455, m25_457, m25_459, m25_461, m25_463, m25_466, m25_469, m25_470i, m25_472, m25_475, m25_478, m25_481, m25_483, m25_486, m25_489, m25_491, m25_494, m25_496i, m25_498, m25_501, m25_506, m25_509, m25_511, m25_514, m25_515, m25_516, m25_518, m25_521, m25_523, m25_524, m25_527, m25_528, m25_531, m25_532, m25_535, m25_536, m25_537, m25_539, m25_542, m25_544, m25_547, m25_548, m25_549, m25_552, m25_555, m25_556, nb0, nb1, ou_a, Option.toList_some, Option.toList_none, List.nil_append, List.cons_append]
        have go := ih (i + 1) (nI i) (.val (.int 1)) (.val (.int (nI m))) (by omega) (Or.inr ⟨i, by omega, rfl, hm, hf⟩) (okS_i _) (okS_n _)
        rw [ec] at go
        exact go
      · have c2 : (nI j < 0) = False := nnF (by omega)
        simp [c2, nI_1, m25_0, m25_1, m25_2, m25_5, m25_7, m25_10u, m25_11, m25_12, m25_13, m25_16, m25_18, m25_21u, m25_22, m25_23, m25_26u, m25_27, m25_30, m25_31, m25_32, m25_33, m25_36u, m25_38, m25_39, m25_41, m25_42, m25_44, m25_45, m25_47, m25_48, m25_50, m25_51u, m25_53, m25_54u, m25_56, m25_57, m25_57p, m25_58, m25_59, m25_62, m25_63, m25_66, m25_67, m25_67p, m25_68u, m25_70, m25_71u, m25_75, m25_77, m25_80, m25_82, m25_83, m25_86, m25_87, m25_89, m25_89p, m25_90u, m25_90i, m25_90r, m25_90g, m25_92, m25_94, m25_96, m25_97u, m25_97i, m25_97r, m25_97g, m25_99, m25_101, m25_102, m25_103u, m25_103i, m25_103r, m25_103g, m25_105, m25_107, m25_108, m25_111, m25_113, m25_115, m25_116, m25_117, m25_120, m25_121, m25_124, m25_126, m25_127, m25_130, m25_132, m25_133, m25_136, m25_138, m25_140, m25_143, m25_145, m25_146, m25_147u, m25_147i, m25_147r, m25_147g, m25_149, m25_151, m25_152, m25_155, m25_157, m25_159, m25_161, m25_162, m25_165u, m25_165i, m25_165r, m25_165g, m25_167, m25_169, m25_172, m25_174, m25_175, m25_178, m25_180i, m25_182, m25_184, m25_186, m25_189, m25_192, m25_194, m25_195, m25_196, m25_198, m25_200, m25_201, m25_202, m25_203, m25_205, m25_207, m25_209, m25_212, m25_214, m25_216, m25_217, m25_219, m25_222, m25_224, m25_226, m25_229, m25_231, m25_233, m25_234, m25_236, m25_239, m25_241, m25_243, m25_246, m25_248, m25_250, m25_251, m25_253, m25_256, m25_258, m25_260, m25_261, m25_263, m25_266, m25_269, m25_271, m25_272, m25_275, m25_277, m25_280, m25_281, m25_283, m25_284, m25_286, m25_287, m25_289, m25_290, m25_292, m25_293i, m25_295, m25_297, m25_299, m25_302, m25_303, m25_304, m25_305i, m25_307, m25_310, m25_312, m25_314, m25_317, m25_319, m25_321, m25_322, m25_325, m25_327, m25_330, m25_331, m25_333, m25_334, m25_336, m25_337, m25_339, m25_340, m25_342, m25_343i, m25_345, m25_346i, m25_348, m25_351, m25_353, m25_355, m25_356, m25_357, m25_360, m25_361, m25_364, m25_366, m25_367, m25_368, m25_371, m25_373, m25_376, m25_378, m25_380, m25_381, m25_382, m25_383, m25_384, m25_387, m25_388, m25_390, m25_393u, m25_393i, m25_393r, m25_393g, m25_395, m25_397, m25_400u, m25_400i, m25_400r, m25_400g, m25_402, m25_404, m25_406, m25_409, m25_410, m25_411, m25_412u, m25_412i, m25_412r, m25_412g, m25_414, m25_415u, m25_415i, m25_415r, m25_415g, m25_417, m25_418u, m25_418i, m25_418r, m25_418g, m25_422, m25_424, m25_425, m25_427, m25_430, m25_431u, m25_431i, m25_431r, m25_431g, m25_433, m25_434u, m25_434i, m25_434r, m25_434g, m25_438, m25_440, m25_443, m25_445, m25_447, m25_449, m25_450, m25_453, m25_455, m25_457, m25_459, m25_461, m25_463, m25_466, m25_469, m25_470i, m25_472, m25_475, m25_478, m25_481, m25_483, m25_486, m25_489, m25_491, m25_494, m25_496i, m25_498, m25_501, m25_506, m25_509, m25_511, m25_514, m25_515, m25_516, m25_518, m25_521, m25_523, m25_524, m25_527, m25_528, m25_531, m25_532, m25_535, m25_536, m25_537, m25_539, m25_542, m25_544, m25_547, m25_548, m25_549, m25_552, m25_555, m25_556, nb0, nb1, ou_a, Option.toList_some, Option.toList_none, List.nil_append, List.cons_append]
        have go := ih (i + 1) (nI j) (.val (.int 1)) (.val (.int (nI m))) (by omega) (Or.inr ⟨j, by omega, rfl, f1, f2⟩) (okS_i _) (okS_n _)
        rw [ec] at go
        exact go
    · have ec : cB (MT w p m) (i + 1) = cB (MT w p m) i := by rw [cB, if_neg (by rw [hm]; decide)]; rfl
      simp [nI_1, m25_0, m25_1, m25_2, m25_5, m25_7, m25_10u, m25_11, m25_12, m25_13, m25_16, m25_18, m25_21u, m25_22, m25_23, m25_26u, m25_27, m25_30, m25_31, m25_32, m25_33, m25_36u, m25_38, m25_39, m25_41, m25_42, m25_44, m25_45, m25_47, m25_48, m25_50, m25_51u, m25_53, m25_54u, m25_56, m25_57, m25_57p, m25_58, m25_59, m25_62, m25_63, m25_66, m25_67, m25_67p, m25_68u, m25_70, m25_71u, m25_75, m25_77, m25_80, m25_82, m25_83, m25_86, m25_87, m25_89, m25_89p, m25_90u, m25_90i, m25_90r, m25_90g, m25_92, m25_94, m25_96, m25_97u, m25_97i, m25_97r, m25_97g, m25_99, m25_101, m25_102, m25_103u, m25_103i, m25_103r, m25_103g, m25_105, m25_107, m25_108, m25_111, m25_113, m25_115, m25_116, m25_117, m25_120, m25_121, m25_124, m25_126, m25_127, m25_130, m25_132, m25_133, m25_136, m25_138, m25_140, m25_143, m25_145, m25_146, m25_147u, m25_147i, m25_147r, m25_147g, m25_149, m25_151, m25_152, m25_155, m25_157, m25_159, m25_161, m25_162, m25_165u, m25_165i, m25_165r, m25_165g, m25_167, m25_169, m25_172, m25_174, m25_175, m25_178, m25_180i, m25_182, m25_184, m25_186, m25_189, m25_192, m25_194, m25_195, m25_196, m25_198, m25_200, m25_201, m25_202, m25_203, m25_205, m25_207, m25_209, m25_212, m25_214, m25_216, m25_217, m25_219, m25_222, m25_224, m25_226, m25_229, m25_231, m25_233, m25_234, m25_236, m25_239, m25_241, m25_243, m25_246, m25_248, m25_250, m25_251, m25_253, m25_256, m25_258, m25_260, m25_261, m25_263, m25_266, m25_269, m25_271, m25_272, m25_275, m25_277, m25_280, m25_281, m25_283, m25_284, m25_286, m25_287, m25_289, m25_290, m25_292, m25_293i, m25_295, m25_297, m25_299, m25_302, m25_303, m25_304, m25_305i, m25_307, m25_310, m25_312, m25_314, m25_317, m25_319, m25_321, m25_322, m25_325, m25_327, m25_330, m25_331, m25_333, m25_334, m25_336, m25_337, m25_339, m25_340, m25_342, m25_343i, m25_345, m25_346i, m25_348, m25_351, m25_353, m25_355, m25_356, m25_357, m25_360, m25_361, m25_364, m25_366, m25_367, m25_368, m25_371, m25_373, m25_376, m25_378, m25_380, m25_381, m25_382, m25_383, m25_384, m25_387, m25_388, m25_390, m25_393u, m25_393i, m25_393r, m25_393g, m25_395, m25_397, m25_400u, m25_400i, m25_400r, m25_400g, m25_402, m25_404, m25_406, m25_409, m25_410, m25_411, m25_412u, m25_412i, m25_412r, m25_412g, m25_414, m25_415u, m25_415i, m25_415r, m25_415g, m25_417, m25_418u, m25_418i, m25_418r, m25_418g, m25_422, m25_424, m25_425, m25_427, m25_430, m25_431u, m25_431i, m25_431r, m25_431g, m25_433, m25_434u, m25_434i, m25_434r, m25_434g, m25_438, m25_440, m25_443, m25_445, m25_447, m25_449, m25_450, m25_453, m25_455, m25_457, m25_459, m25_461, m25_463, m25_466, m25_469, m25_470i, m25_472, m25_475, m25_478, m25_481, m25_483, m25_486, m25_489, m25_491, m25_494, m25_496i, m25_498, m25_501, m25_506, m25_509, m25_511, m25_514, m25_515, m25_516, m25_518, m25_521, m25_523, m25_524, m25_527, m25_528, m25_531, m25_532, m25_535, m25_536, m25_537, m25_539, m25_542, m25_544, m25_547, m25_548, m25_549, m25_552, m25_555, m25_556, nb0, nb1, ou_a, Option.toList_some, Option.toList_none, List.nil_append, List.cons_append]
      have go := ih (i + 1) fo (.val (.int 0)) (.val (.int (nI j))) (by omega) (by
        rcases hf with ⟨e1, hf⟩ | ⟨k, hk, e1, f1, f2⟩
        · exact Or.inl ⟨e1, fun k hk => by
            by_cases q : k = i
            · rw [q]; exact hm
            · exact hf k (by omega)⟩
        · exact Or.inr ⟨k, by omega, e1, f1, f2⟩) (okS_i _) (okS_n _)
      rw [ec] at go
      exact go
theorem ckW (h : OX al cap n m w p s A) (hp : PQ x0 x1 x2 x3 m p) (o17 : okS l17) (o18 : okS l18) (o19 : okS l19) (o20 : okS l20) (o21 : okP l21 l22) (o23 : okS l23) (hq : ∀ l17 l18 l19 l20 l21 l22 l23 s' A', OX al cap n m w p s' A' → okS l17 → okS l18 → okS l19 → okS l20 → okP l21 l22 → okS l23 → M25 549 [.val (.ref 0), l1, l2, .val (.int (nI al)), .val (.ref 1), .val (.long x0), .second, .val (.long x1), .second, .val (.long x2), .second, .val (.long x3), .second, .val (.int (nI m)), .val (.int (nI cu)), .val (.int (nI en)), .val (.int (nI t)), l17, l18, l19, l20, l21, l22, l23] [] (put 1 [((FieldType.array .int, vs.map Value.int) : FieldType × List Value)] s' A' []) Q) : M25 388 [.val (.ref 0), l1, l2, .val (.int (nI al)), .val (.ref 1), .val (.long x0), .second, .val (.long x1), .second, .val (.long x2), .second, .val (.long x3), .second, .val (.int (nI m)), .val (.int (nI cu)), .val (.int (nI en)), .val (.int (nI t)), l17, l18, l19, l20, l21, l22, l23] [] (put 1 [((FieldType.array .int, vs.map Value.int) : FieldType × List Value)] s A []) Q := by
  obtain ⟨a8, n6, m6, pl, wl⟩ := al8 h
  obtain ⟨s2, s3⟩ : s 2 = nI n ∧ s 3 = nI m := by
    obtain ⟨N, lab, lk, nx, fe, cl, last, h⟩ := h
    exact ⟨h.s2, h.s3⟩
  obtain ⟨k22, ok22, e418⟩ := own_law_418 (H := (put 1 [((FieldType.array .int, vs.map Value.int) : FieldType × List Value)] s A [])) (Q := Q) (st := []) (v := 0) (l0 := .val (.ref 0)) (l1 := l1) (l2 := l2) (l3 := .val (.int (nI al))) (l4 := .val (.ref 1)) (l5 := .val (.long x0)) (l6 := .second) (l7 := .val (.long x1)) (l8 := .second) (l9 := .val (.long x2)) (l10 := .second) (l11 := .val (.long x3)) (l12 := .second) (l13 := .val (.int (nI m))) (l14 := .val (.int (nI cu))) (l15 := .val (.int (nI en))) (l16 := .val (.int (nI t))) (l17 := .val (.int (nI n))) (l18 := .val (.int (nI m))) (l19 := .val (.int 0)) (l20 := .val (.int (-1))) (l23 := l23) o21
  simp [s2, s3, o17, o18, o19, o20, m3_0, m3_1, m3_4, nb0, nb1, ou_a, Option.toList_some, Option.toList_none, List.nil_append, List.cons_append, m4_0, m4_1, m4_4, nb0, nb1, ou_a, Option.toList_some, Option.toList_none, List.nil_append, List.cons_append, m25_0, m25_1, m25_2, m25_5, m25_7, m25_10u, m25_11, m25_12, m25_13, m25_16, m25_18, m25_21u, m25_22, m25_23, m25_26u, m25_27, m25_30, m25_31, m25_32, m25_33, m25_36u, m25_38, m25_39, m25_41, m25_42, m25_44, m25_45, m25_47, m25_48, m25_50, m25_51u, m25_53, m25_54u, m25_56, m25_57, m25_57p, m25_58, m25_59, m25_62, m25_63, m25_66, m25_67, m25_67p, m25_68u, m25_70, m25_71u, m25_75, m25_77, m25_80, m25_82, m25_83, m25_86, m25_87, m25_89, m25_89p, m25_90u, m25_90i, m25_90r, m25_90g, m25_92, m25_94, m25_96, m25_97u, m25_97i, m25_97r, m25_97g, m25_99, m25_101, m25_102, m25_103u, m25_103i, m25_103r, m25_103g, m25_105, m25_107, m25_108, m25_111, m25_113, m25_115, m25_116, m25_117, m25_120, m25_121, m25_124, m25_126, m25_127, m25_130, m25_132, m25_133, m25_136, m25_138, m25_140, m25_143, m25_145, m25_146, m25_147u, m25_147i, m25_147r, m25_147g, m25_149, m25_151, m25_152, m25_155, m25_157, m25_159, m25_161, m25_162, m25_165u, m25_165i, m25_165r, m25_165g, m25_167, m25_169, m25_172, m25_174, m25_175, m25_178, m25_180i, m25_182, m25_184, m25_186, m25_189, m25_192, m25_194, m25_195, m25_196, m25_198, m25_200, m25_201, m25_202, m25_203, m25_205, m25_207, m25_209, m25_212, m25_214, m25_216, m25_217, m25_219, m25_222, m25_224, m25_226, m25_229, m25_231, m25_233, m25_234, m25_236, m25_239, m25_241, m25_243, m25_246, m25_248, m25_250, m25_251, m25_253, m25_256, m25_258, m25_260, m25_261, m25_263, m25_266, m25_269, m25_271, m25_272, m25_275, m25_277, m25_280, m25_281, m25_283, m25_284, m25_286, m25_287, m25_289, m25_290, m25_292, m25_293i, m25_295, m25_297, m25_299, m25_302, m25_303, m25_304, m25_305i, m25_307, m25_310, m25_312, m25_314, m25_317, m25_319, m25_321, m25_322, m25_325, m25_327, m25_330, m25_331, m25_333, m25_334, m25_336, m25_337, m25_339, m25_340, m25_342, m25_343i, m25_345, m25_346i, m25_348, m25_351, m25_353, m25_355, m25_356, m25_357, m25_360, m25_361, m25_364, m25_366, m25_367, m25_368, m25_371, m25_373, m25_376, m25_378, m25_380, m25_381, m25_382, m25_383, m25_384, m25_387, m25_388, m25_390, m25_393u, m25_393i, m25_393r, m25_393g, m25_395, m25_397, m25_400u, m25_400i, m25_400r, m25_400g, m25_402, m25_404, m25_406, m25_409, m25_410, m25_411, m25_412u, m25_412i, m25_412r, m25_412g, m25_414, m25_415u, m25_415i, m25_415r, m25_415g, m25_417, m25_418g, m25_422, m25_424, m25_425, m25_427, m25_430, m25_431u, m25_431i, m25_431r, m25_431g, m25_433, m25_434u, m25_434i, m25_434r, m25_434g, m25_438, m25_440, m25_443, m25_445, m25_447, m25_449, m25_450, m25_453, m25_455, m25_457, m25_459, m25_461, m25_463, m25_466, m25_469, m25_470i, m25_472, m25_475, m25_478, m25_481, m25_483, m25_486, m25_489, m25_491, m25_494, m25_496i, m25_498, m25_501, m25_504, m25_506, m25_509, m25_511, m25_514, m25_515, m25_516, m25_518, m25_521, m25_523, m25_524, m25_527, m25_528, m25_531, m25_532, m25_535, m25_536, m25_537, m25_539, m25_542, m25_544, m25_547, m25_548, m25_549, m25_552, m25_555, m25_556, nb0, nb1, ou_a, Option.toList_some, Option.toList_none, List.nil_append, List.cons_append]
  rw [e418]
  refine ckI h hp (fun fo l21 l22 l23 hf p21 p23 => ?_) (n + 1 - m) 0 (-1) _ _ (by omega) (Or.inl ⟨rfl, fun j hj => absurd hj (by omega)⟩) ok22 o23
  have cb := cB_le (MT w p m) (n + 1 - m)
  simp [m25_0, m25_1, m25_2, m25_5, m25_7, m25_10u, m25_11, m25_12, m25_13, m25_16, m25_18, m25_21u, m25_22, m25_23, m25_26u, m25_27, m25_30, m25_31, m25_32, m25_33, m25_36u, m25_38, m25_39, m25_41, m25_42, m25_44, m25_45, m25_47, m25_48, m25_50, m25_51u, m25_53, m25_54u, m25_56, m25_57, m25_57p, m25_58, m25_59, m25_62, m25_63, m25_66, m25_67, m25_67p, m25_68u, m25_70, m25_71u, m25_75, m25_77, m25_80, m25_82, m25_83, m25_86, m25_87, m25_89, m25_89p, m25_90u, m25_90i, m25_90r, m25_90g, m25_92, m25_94, m25_96, m25_97u, m25_97i, m25_97r, m25_97g, m25_99, m25_101, m25_102, m25_103u, m25_103i, m25_103r, m25_103g, m25_105, m25_107, m25_108, m25_111, m25_113, m25_115, m25_116, m25_117, m25_120, m25_121, m25_124, m25_126, m25_127, m25_130, m25_132, m25_133, m25_136, m25_138, m25_140, m25_143, m25_145, m25_146, m25_147u, m25_147i, m25_147r, m25_147g, m25_149, m25_151, m25_152, m25_155, m25_157, m25_159, m25_161, m25_162, m25_165u, m25_165i, m25_165r, m25_165g, m25_167, m25_169, m25_172, m25_174, m25_175, m25_178, m25_180i, m25_182, m25_184, m25_186, m25_189, m25_192, m25_194, m25_195, m25_196, m25_198, m25_200, m25_201, m25_202, m25_203, m25_205, m25_207, m25_209, m25_212, m25_214, m25_216, m25_217, m25_219, m25_222, m25_224, m25_226, m25_229, m25_231, m25_233, m25_234, m25_236, m25_239, m25_241, m25_243, m25_246, m25_248, m25_250, m25_251, m25_253, m25_256, m25_258, m25_260, m25_261, m25_263, m25_266, m25_269, m25_271, m25_272, m25_275, m25_277, m25_280, m25_281, m25_283, m25_284, m25_286, m25_287, m25_289, m25_290, m25_292, m25_293i, m25_295, m25_297, m25_299, m25_302, m25_303, m25_304, m25_305i, m25_307, m25_310, m25_312, m25_314, m25_317, m25_319, m25_321, m25_322, m25_325, m25_327, m25_330, m25_331, m25_333, m25_334, m25_336, m25_337, m25_339, m25_340, m25_342, m25_343i, m25_345, m25_346i, m25_348, m25_351, m25_353, m25_355, m25_356, m25_357, m25_360, m25_361, m25_364, m25_366, m25_367, m25_368, m25_371, m25_373, m25_376, m25_378, m25_380, m25_381, m25_382, m25_383, m25_384, m25_387, m25_388, m25_390, m25_393u, m25_393i, m25_393r, m25_393g, m25_395, m25_397, m25_400u, m25_400i, m25_400r, m25_400g, m25_402, m25_404, m25_406, m25_409, m25_410, m25_411, m25_412u, m25_412i, m25_412r, m25_412g, m25_414, m25_415u, m25_415i, m25_415r, m25_415g, m25_417, m25_418u, m25_418i, m25_418r, m25_418g, m25_422, m25_424, m25_425, m25_427, m25_430, m25_431u, m25_431i, m25_431r, m25_431g, m25_433, m25_434u, m25_434i, m25_434r, m25_434g, m25_438, m25_440, m25_443, m25_445, m25_447, m25_449, m25_450, m25_453, m25_455, m25_457, m25_459, m25_461, m25_463, m25_466, m25_469, m25_470i, m25_472, m25_475, m25_478, m25_481, m25_483, m25_486, m25_489, m25_491, m25_494, m25_496i, m25_498, m25_501, m25_504, m25_506, m25_509, m25_511, m25_514, m25_515, m25_516, m25_518, m25_521, m25_523, m25_524, m25_527, m25_528, m25_531, m25_532, m25_535, m25_536, m25_537, m25_539, m25_542, m25_544, m25_547, m25_548, m25_549, m25_552, m25_555, m25_556, nb0, nb1, ou_a, Option.toList_some, Option.toList_none, List.nil_append, List.cons_append]
  refine ocW (b := 0) h (fun k s1 A1 h' k1 k2 => ?_)
  have ek : k = cB (MT w p m) (n + 1 - m) := by
    rcases Nat.lt_or_ge n m with q | q
    · rw [k2 q, show n + 1 - m = 0 by omega]; rfl
    · exact k1 q
  rw [ek]
  simp [m25_0, m25_1, m25_2, m25_5, m25_7, m25_10u, m25_11, m25_12, m25_13, m25_16, m25_18, m25_21u, m25_22, m25_23, m25_26u, m25_27, m25_30, m25_31, m25_32, m25_33, m25_36u, m25_38, m25_39, m25_41, m25_42, m25_44, m25_45, m25_47, m25_48, m25_50, m25_51u, m25_53, m25_54u, m25_56, m25_57, m25_57p, m25_58, m25_59, m25_62, m25_63, m25_66, m25_67, m25_67p, m25_68u, m25_70, m25_71u, m25_75, m25_77, m25_80, m25_82, m25_83, m25_86, m25_87, m25_89, m25_89p, m25_90u, m25_90i, m25_90r, m25_90g, m25_92, m25_94, m25_96, m25_97u, m25_97i, m25_97r, m25_97g, m25_99, m25_101, m25_102, m25_103u, m25_103i, m25_103r, m25_103g, m25_105, m25_107, m25_108, m25_111, m25_113, m25_115, m25_116, m25_117, m25_120, m25_121, m25_124, m25_126, m25_127, m25_130, m25_132, m25_133, m25_136, m25_138, m25_140, m25_143, m25_145, m25_146, m25_147u, m25_147i, m25_147r, m25_147g, m25_149, m25_151, m25_152, m25_155, m25_157, m25_159, m25_161, m25_162, m25_165u, m25_165i, m25_165r, m25_165g, m25_167, m25_169, m25_172, m25_174, m25_175, m25_178, m25_180i, m25_182, m25_184, m25_186, m25_189, m25_192, m25_194, m25_195, m25_196, m25_198, m25_200, m25_201, m25_202, m25_203, m25_205, m25_207, m25_209, m25_212, m25_214, m25_216, m25_217, m25_219, m25_222, m25_224, m25_226, m25_229, m25_231, m25_233, m25_234, m25_236, m25_239, m25_241, m25_243, m25_246, m25_248, m25_250, m25_251, m25_253, m25_256, m25_258, m25_260, m25_261, m25_263, m25_266, m25_269, m25_271, m25_272, m25_275, m25_277, m25_280, m25_281, m25_283, m25_284, m25_286, m25_287, m25_289, m25_290, m25_292, m25_293i, m25_295, m25_297, m25_299, m25_302, m25_303, m25_304, m25_305i, m25_307, m25_310, m25_312, m25_314, m25_317, m25_319, m25_321, m25_322, m25_325, m25_327, m25_330, m25_331, m25_333, m25_334, m25_336, m25_337, m25_339, m25_340, m25_342, m25_343i, m25_345, m25_346i, m25_348, m25_351, m25_353, m25_355, m25_356, m25_357, m25_360, m25_361, m25_364, m25_366, m25_367, m25_368, m25_371, m25_373, m25_376, m25_378, m25_380, m25_381, m25_382, m25_383, m25_384, m25_387, m25_388, m25_390, m25_393u, m25_393i, m25_393r, m25_393g, m25_395, m25_397, m25_400u, m25_400i, m25_400r, m25_400g, m25_402, m25_404, m25_406, m25_409, m25_410, m25_411, m25_412u, m25_412i, m25_412r, m25_412g, m25_414, m25_415u, m25_415i, m25_415r, m25_415g, m25_417, m25_418u, m25_418i, m25_418r, m25_418g, m25_422, m25_424, m25_425, m25_427, m25_430, m25_431u, m25_431i, m25_431r, m25_431g, m25_433, m25_434u, m25_434i, m25_434r, m25_434g, m25_438, m25_440, m25_443, m25_445, m25_447, m25_449, m25_450, m25_453, m25_455, m25_457, m25_459, m25_461, m25_463, m25_466, m25_469, m25_470i, m25_472, m25_475, m25_478, m25_481, m25_483, m25_486, m25_489, m25_491, m25_494, m25_496i, m25_498, m25_501, m25_504, m25_506, m25_509, m25_511, m25_514, m25_515, m25_516, m25_518, m25_521, m25_523, m25_524, m25_527, m25_528, m25_531, m25_532, m25_535, m25_536, m25_537, m25_539, m25_542, m25_544, m25_547, m25_548, m25_549, m25_552, m25_555, m25_556, nb0, nb1, ou_a, Option.toList_some, Option.toList_none, List.nil_append, List.cons_append]
  have tail : ∀ X : Int32, M25 537 [.val (.ref 0), l1, l2, .val (.int (nI al)), .val (.ref 1), .val (.long x0), .second, .val (.long x1), .second, .val (.long x2), .second, .val (.long x3), .second, .val (.int (nI m)), .val (.int (nI cu)), .val (.int (nI en)), .val (.int (nI t)), .val (.int (nI n)), .val (.int (nI m)), .val (.int (nI (cB (MT w p m) (n + 1 - m)))), .val (.int (fo)), l21, l22, l23] [] (put 1 [((FieldType.array .int, vs.map Value.int) : FieldType × List Value)] s1 A1 []) Q := by
    intro X
    simp [m25_0, m25_1, m25_2, m25_5, m25_7, m25_10u, m25_11, m25_12, m25_13, m25_16, m25_18, m25_21u, m25_22, m25_23, m25_26u, m25_27, m25_30, m25_31, m25_32, m25_33, m25_36u, m25_38, m25_39, m25_41, m25_42, m25_44, m25_45, m25_47, m25_48, m25_50, m25_51u, m25_53, m25_54u, m25_56, m25_57, m25_57p, m25_58, m25_59, m25_62, m25_63, m25_66, m25_67, m25_67p, m25_68u, m25_70, m25_71u, m25_75, m25_77, m25_80, m25_82, m25_83, m25_86, m25_87, m25_89, m25_89p, m25_90u, m25_90i, m25_90r, m25_90g, m25_92, m25_94, m25_96, m25_97u, m25_97i, m25_97r, m25_97g, m25_99, m25_101, m25_102, m25_103u, m25_103i, m25_103r, m25_103g, m25_105, m25_107, m25_108, m25_111, m25_113, m25_115, m25_116, m25_117, m25_120, m25_121, m25_124, m25_126, m25_127, m25_130, m25_132, m25_133, m25_136, m25_138, m25_140, m25_143, m25_145, m25_146, m25_147u, m25_147i, m25_147r, m25_147g, m25_149, m25_151, m25_152, m25_155, m25_157, m25_159, m25_161, m25_162, m25_165u, m25_165i, m25_165r, m25_165g, m25_167, m25_169, m25_172, m25_174, m25_175, m25_178, m25_180i, m25_182, m25_184, m25_186, m25_189, m25_192, m25_194, m25_195, m25_196, m25_198, m25_200, m25_201, m25_202, m25_203, m25_205, m25_207, m25_209, m25_212, m25_214, m25_216, m25_217, m25_219, m25_222, m25_224, m25_226, m25_229, m25_231, m25_233, m25_234, m25_236, m25_239, m25_241, m25_243, m25_246, m25_248, m25_250, m25_251, m25_253, m25_256, m25_258, m25_260, m25_261, m25_263, m25_266, m25_269, m25_271, m25_272, m25_275, m25_277, m25_280, m25_281, m25_283, m25_284, m25_286, m25_287, m25_289, m25_290, m25_292, m25_293i, m25_295, m25_297, m25_299, m25_302, m25_303, m25_304, m25_305i, m25_307, m25_310, m25_312, m25_314, m25_317, m25_319, m25_321, m25_322, m25_325, m25_327, m25_330, m25_331, m25_333, m25_334, m25_336, m25_337, m25_339, m25_340, m25_342, m25_343i, m25_345, m25_346i, m25_348, m25_351, m25_353, m25_355, m25_356, m25_357, m25_360, m25_361, m25_364, m25_366, m25_367, m25_368, m25_371, m25_373, m25_376, m25_378, m25_380, m25_381, m25_382, m25_383, m25_384, m25_387, m25_388, m25_390, m25_393u, m25_393i, m25_393r, m25_393g, m25_395, m25_397, m25_400u, m25_400i, m25_400r, m25_400g, m25_402, m25_404, m25_406, m25_409, m25_410, m25_411, m25_412u, m25_412i, m25_412r, m25_412g, m25_414, m25_415u, m25_415i, m25_415r, m25_415g, m25_417, m25_418u, m25_418i, m25_418r, m25_418g, m25_422, m25_424, m25_425, m25_427, m25_430, m25_431u, m25_431i, m25_431r, m25_431g, m25_433, m25_434u, m25_434i, m25_434r, m25_434g, m25_438, m25_440, m25_443, m25_445, m25_447, m25_449, m25_450, m25_453, m25_455, m25_457, m25_459, m25_461, m25_463, m25_466, m25_469, m25_470i, m25_472, m25_475, m25_478, m25_481, m25_483, m25_486, m25_489, m25_491, m25_494, m25_496i, m25_498, m25_501, m25_504, m25_506, m25_509, m25_511, m25_514, m25_515, m25_516, m25_518, m25_521, m25_523, m25_524, m25_527, m25_528, m25_531, m25_532, m25_535, m25_536, m25_537, m25_539, m25_542, m25_544, m25_547, m25_548, m25_549, m25_552, m25_555, m25_556, nb0, nb1, ou_a, Option.toList_some, Option.toList_none, List.nil_append, List.cons_append]
    refine foW (b := 0) h' (fun i q hi y1 y2 => ?_) (fun no => ?_)
    · have : fo = nI i := by
        rcases hf with ⟨_, f⟩ | ⟨j, hj, e, f1, f2⟩
        · rw [f i hi] at y1; cases y1
        · rcases Nat.lt_trichotomy i j with l | l | l
          · rw [f2 i l] at y1; cases y1
          · rw [e, l]
          · rw [y2 j l] at f1; cases f1
      rw [this]
      simp [m25_0, m25_1, m25_2, m25_5, m25_7, m25_10u, m25_11, m25_12, m25_13, m25_16, m25_18, m25_21u, m25_22, m25_23, m25_26u, m25_27, m25_30, m25_31, m25_32, m25_33, m25_36u, m25_38, m25_39, m25_41, m25_42, m25_44, m25_45, m25_47, m25_48, m25_50, m25_51u, m25_53, m25_54u, m25_56, m25_57, m25_57p, m25_58, m25_59, m25_62, m25_63, m25_66, m25_67, m25_67p, m25_68u, m25_70, m25_71u, m25_75, m25_77, m25_80, m25_82, m25_83, m25_86, m25_87, m25_89, m25_89p, m25_90u, m25_90i, m25_90r, m25_90g, m25_92, m25_94, m25_96, m25_97u, m25_97i, m25_97r, m25_97g, m25_99, m25_101, m25_102, m25_103u, m25_103i, m25_103r, m25_103g, m25_105, m25_107, m25_108, m25_111, m25_113, m25_115, m25_116, m25_117, m25_120, m25_121, m25_124, m25_126, m25_127, m25_130, m25_132, m25_133, m25_136, m25_138, m25_140, m25_143, m25_145, m25_146, m25_147u, m25_147i, m25_147r, m25_147g, m25_149, m25_151, m25_152, m25_155, m25_157, m25_159, m25_161, m25_162, m25_165u, m25_165i, m25_165r, m25_165g, m25_167, m25_169, m25_172, m25_174, m25_175, m25_178, m25_180i, m25_182, m25_184, m25_186, m25_189, m25_192, m25_194, m25_195, m25_196, m25_198, m25_200, m25_201, m25_202, m25_203, m25_205, m25_207, m25_209, m25_212, m25_214, m25_216, m25_217, m25_219, m25_222, m25_224, m25_226, m25_229, m25_231, m25_233, m25_234, m25_236, m25_239, m25_241, m25_243, m25_246, m25_248, m25_250, m25_251, m25_253, m25_256, m25_258, m25_260, m25_261, m25_263, m25_266, m25_269, m25_271, m25_272, m25_275, m25_277, m25_280, m25_281, m25_283, m25_284, m25_286, m25_287, m25_289, m25_290, m25_292, m25_293i, m25_295, m25_297, m25_299, m25_302, m25_303, m25_304, m25_305i, m25_307, m25_310, m25_312, m25_314, m25_317, m25_319, m25_321, m25_322, m25_325, m25_327, m25_330, m25_331, m25_333, m25_334, m25_336, m25_337, m25_339, m25_340, m25_342, m25_343i, m25_345, m25_346i, m25_348, m25_351, m25_353, m25_355, m25_356, m25_357, m25_360, m25_361, m25_364, m25_366, m25_367, m25_368, m25_371, m25_373, m25_376, m25_378, m25_380, m25_381, m25_382, m25_383, m25_384, m25_387, m25_388, m25_390, m25_393u, m25_393i, m25_393r, m25_393g, m25_395, m25_397, m25_400u, m25_400i, m25_400r, m25_400g, m25_402, m25_404, m25_406, m25_409, m25_410, m25_411, m25_412u, m25_412i, m25_412r, m25_412g, m25_414, m25_415u, m25_415i, m25_415r, m25_415g, m25_417, m25_418u, m25_418i, m25_418r, m25_418g, m25_422, m25_424, m25_425, m25_427, m25_430, m25_431u, m25_431i, m25_431r, m25_431g, m25_433, m25_434u, m25_434i, m25_434r, m25_434g, m25_438, m25_440, m25_443, m25_445, m25_447, m25_449, m25_450, m25_453, m25_455, m25_457, m25_459, m25_461, m25_463, m25_466, m25_469, m25_470i, m25_472, m25_475, m25_478, m25_481, m25_483, m25_486, m25_489, m25_491, m25_494, m25_496i, m25_498, m25_501, m25_504, m25_506, m25_509, m25_511, m25_514, m25_515, m25_516, m25_518, m25_521, m25_523, m25_524, m25_527, m25_528, m25_531, m25_532, m25_535, m25_536, m25_537, m25_539, m25_542, m25_544, m25_547, m25_548, m25_552, m25_555, m25_556, nb0, nb1, ou_a, Option.toList_some, Option.toList_none, List.nil_append, List.cons_append]
      exact hq _ _ _ _ _ _ _ s1 A1 h' (okS_n _) (okS_n _) (okS_n _) (okS_n _) p21 p23
    · have : fo = -1 := by
        rcases hf with ⟨e, _⟩ | ⟨j, hj, e, f1, f2⟩
        · exact e
        · have := no j (by omega) hj
          rw [this] at f1; cases f1
      rw [this]
      simp [m25_0, m25_1, m25_2, m25_5, m25_7, m25_10u, m25_11, m25_12, m25_13, m25_16, m25_18, m25_21u, m25_22, m25_23, m25_26u, m25_27, m25_30, m25_31, m25_32, m25_33, m25_36u, m25_38, m25_39, m25_41, m25_42, m25_44, m25_45, m25_47, m25_48, m25_50, m25_51u, m25_53, m25_54u, m25_56, m25_57, m25_57p, m25_58, m25_59, m25_62, m25_63, m25_66, m25_67, m25_67p, m25_68u, m25_70, m25_71u, m25_75, m25_77, m25_80, m25_82, m25_83, m25_86, m25_87, m25_89, m25_89p, m25_90u, m25_90i, m25_90r, m25_90g, m25_92, m25_94, m25_96, m25_97u, m25_97i, m25_97r, m25_97g, m25_99, m25_101, m25_102, m25_103u, m25_103i, m25_103r, m25_103g, m25_105, m25_107, m25_108, m25_111, m25_113, m25_115, m25_116, m25_117, m25_120, m25_121, m25_124, m25_126, m25_127, m25_130, m25_132, m25_133, m25_136, m25_138, m25_140, m25_143, m25_145, m25_146, m25_147u, m25_147i, m25_147r, m25_147g, m25_149, m25_151, m25_152, m25_155, m25_157, m25_159, m25_161, m25_162, m25_165u, m25_165i, m25_165r, m25_165g, m25_167, m25_169, m25_172, m25_174, m25_175, m25_178, m25_180i, m25_182, m25_184, m25_186, m25_189, m25_192, m25_194, m25_195, m25_196, m25_198, m25_200, m25_201, m25_202, m25_203, m25_205, m25_207, m25_209, m25_212, m25_214, m25_216, m25_217, m25_219, m25_222, m25_224, m25_226, m25_229, m25_231, m25_233, m25_234, m25_236, m25_239, m25_241, m25_243, m25_246, m25_248, m25_250, m25_251, m25_253, m25_256, m25_258, m25_260, m25_261, m25_263, m25_266, m25_269, m25_271, m25_272, m25_275, m25_277, m25_280, m25_281, m25_283, m25_284, m25_286, m25_287, m25_289, m25_290, m25_292, m25_293i, m25_295, m25_297, m25_299, m25_302, m25_303, m25_304, m25_305i, m25_307, m25_310, m25_312, m25_314, m25_317, m25_319, m25_321, m25_322, m25_325, m25_327, m25_330, m25_331, m25_333, m25_334, m25_336, m25_337, m25_339, m25_340, m25_342, m25_343i, m25_345, m25_346i, m25_348, m25_351, m25_353, m25_355, m25_356, m25_357, m25_360, m25_361, m25_364, m25_366, m25_367, m25_368, m25_371, m25_373, m25_376, m25_378, m25_380, m25_381, m25_382, m25_383, m25_384, m25_387, m25_388, m25_390, m25_393u, m25_393i, m25_393r, m25_393g, m25_395, m25_397, m25_400u, m25_400i, m25_400r, m25_400g, m25_402, m25_404, m25_406, m25_409, m25_410, m25_411, m25_412u, m25_412i, m25_412r, m25_412g, m25_414, m25_415u, m25_415i, m25_415r, m25_415g, m25_417, m25_418u, m25_418i, m25_418r, m25_418g, m25_422, m25_424, m25_425, m25_427, m25_430, m25_431u, m25_431i, m25_431r, m25_431g, m25_433, m25_434u, m25_434i, m25_434r, m25_434g, m25_438, m25_440, m25_443, m25_445, m25_447, m25_449, m25_450, m25_453, m25_455, m25_457, m25_459, m25_461, m25_463, m25_466, m25_469, m25_470i, m25_472, m25_475, m25_478, m25_481, m25_483, m25_486, m25_489, m25_491, m25_494, m25_496i, m25_498, m25_501, m25_504, m25_506, m25_509, m25_511, m25_514, m25_515, m25_516, m25_518, m25_521, m25_523, m25_524, m25_527, m25_528, m25_531, m25_532, m25_535, m25_536, m25_537, m25_539, m25_542, m25_544, m25_547, m25_548, m25_552, m25_555, m25_556, nb0, nb1, ou_a, Option.toList_some, Option.toList_none, List.nil_append, List.cons_append]
      exact hq _ _ _ _ _ _ _ s1 A1 h' (okS_n _) (okS_n _) (okS_n _) (okS_i _) p21 p23
  refine coW (b := 0) h' (fun ⟨q, i, hi, y⟩ => ?_) (fun no => ?_)
  · have pos := cB_p _ hi y
    have c1 : (nI (cB (MT w p m) (n + 1 - m)) < 1) = False := lF (c := 1) (by omega) (by omega)
    simp [c1, m25_0, m25_1, m25_2, m25_5, m25_7, m25_10u, m25_11, m25_12, m25_13, m25_16, m25_18, m25_21u, m25_22, m25_23, m25_26u, m25_27, m25_30, m25_31, m25_32, m25_33, m25_36u, m25_38, m25_39, m25_41, m25_42, m25_44, m25_45, m25_47, m25_48, m25_50, m25_51u, m25_53, m25_54u, m25_56, m25_57, m25_57p, m25_58, m25_59, m25_62, m25_63, m25_66, m25_67, m25_67p, m25_68u, m25_70, m25_71u, m25_75, m25_77, m25_80, m25_82, m25_83, m25_86, m25_87, m25_89, m25_89p, m25_90u, m25_90i, m25_90r, m25_90g, m25_92, m25_94, m25_96, m25_97u, m25_97i, m25_97r, m25_97g, m25_99, m25_101, m25_102, m25_103u, m25_103i, m25_103r, m25_103g, m25_105, m25_107, m25_108, m25_111, m25_113, m25_115, m25_116, m25_117, m25_120, m25_121, m25_124, m25_126, m25_127, m25_130, m25_132, m25_133, m25_136, m25_138, m25_140, m25_143, m25_145, m25_146, m25_147u, m25_147i, m25_147r, m25_147g, m25_149, m25_151, m25_152, m25_155, m25_157, m25_159, m25_161, m25_162, m25_165u, m25_165i, m25_165r, m25_165g, m25_167, m25_169, m25_172, m25_174, m25_175, m25_178, m25_180i, m25_182, m25_184, m25_186, m25_189, m25_192, m25_194, m25_195, m25_196, m25_198, m25_200, m25_201, m25_202, m25_203, m25_205, m25_207, m25_209, m25_212, m25_214, m25_216, m25_217, m25_219, m25_222, m25_224, m25_226, m25_229, m25_231, m25_233, m25_234, m25_236, m25_239, m25_241, m25_243, m25_246, m25_248, m25_250, m25_251, m25_253, m25_256, m25_258, m25_260, m25_261, m25_263, m25_266, m25_269, m25_271, m25_272, m25_275, m25_277, m25_280, m25_281, m25_283, m25_284, m25_286, m25_287, m25_289, m25_290, m25_292, m25_293i, m25_295, m25_297, m25_299, m25_302, m25_303, m25_304, m25_305i, m25_307, m25_310, m25_312, m25_314, m25_317, m25_319, m25_321, m25_322, m25_325, m25_327, m25_330, m25_331, m25_333, m25_334, m25_336, m25_337, m25_339, m25_340, m25_342, m25_343i, m25_345, m25_346i, m25_348, m25_351, m25_353, m25_355, m25_356, m25_357, m25_360, m25_361, m25_364, m25_366, m25_367, m25_368, m25_371, m25_373, m25_376, m25_378, m25_380, m25_381, m25_382, m25_383, m25_384, m25_387, m25_388, m25_390, m25_393u, m25_393i, m25_393r, m25_393g, m25_395, m25_397, m25_400u, m25_400i, m25_400r, m25_400g, m25_402, m25_404, m25_406, m25_409, m25_410, m25_411, m25_412u, m25_412i, m25_412r, m25_412g, m25_414, m25_415u, m25_415i, m25_415r, m25_415g, m25_417, m25_418u, m25_418i, m25_418r, m25_418g, m25_422, m25_424, m25_425, m25_427, m25_430, m25_431u, m25_431i, m25_431r, m25_431g, m25_433, m25_434u, m25_434i, m25_434r, m25_434g, m25_438, m25_440, m25_443, m25_445, m25_447, m25_449, m25_450, m25_453, m25_455, m25_457, m25_459, m25_461, m25_463, m25_466, m25_469, m25_470i, m25_472, m25_475, m25_478, m25_481, m25_483, m25_486, m25_489, m25_491, m25_494, m25_496i, m25_498, m25_501, m25_504, m25_506, m25_509, m25_511, m25_514, m25_515, m25_516, m25_518, m25_521, m25_523, m25_524, m25_527, m25_528, m25_531, m25_532, m25_535, m25_536, m25_539, m25_542, m25_544, m25_547, m25_548, m25_549, m25_552, m25_555, m25_556, nb0, nb1, ou_a, Option.toList_some, Option.toList_none, List.nil_append, List.cons_append]
    exact tail 0
  · have z : cB (MT w p m) (n + 1 - m) = 0 := cB_z _ (fun i hi => no i (by omega) hi)
    have c1 : (nI (cB (MT w p m) (n + 1 - m)) < 1) = True := lT (c := 1) (by omega) (by omega)
    simp [c1, m25_0, m25_1, m25_2, m25_5, m25_7, m25_10u, m25_11, m25_12, m25_13, m25_16, m25_18, m25_21u, m25_22, m25_23, m25_26u, m25_27, m25_30, m25_31, m25_32, m25_33, m25_36u, m25_38, m25_39, m25_41, m25_42, m25_44, m25_45, m25_47, m25_48, m25_50, m25_51u, m25_53, m25_54u, m25_56, m25_57, m25_57p, m25_58, m25_59, m25_62, m25_63, m25_66, m25_67, m25_67p, m25_68u, m25_70, m25_71u, m25_75, m25_77, m25_80, m25_82, m25_83, m25_86, m25_87, m25_89, m25_89p, m25_90u, m25_90i, m25_90r, m25_90g, m25_92, m25_94, m25_96, m25_97u, m25_97i, m25_97r, m25_97g, m25_99, m25_101, m25_102, m25_103u, m25_103i, m25_103r, m25_103g, m25_105, m25_107, m25_108, m25_111, m25_113, m25_115, m25_116, m25_117, m25_120, m25_121, m25_124, m25_126, m25_127, m25_130, m25_132, m25_133, m25_136, m25_138, m25_140, m25_143, m25_145, m25_146, m25_147u, m25_147i, m25_147r, m25_147g, m25_149, m25_151, m25_152, m25_155, m25_157, m25_159, m25_161, m25_162, m25_165u, m25_165i, m25_165r, m25_165g, m25_167, m25_169, m25_172, m25_174, m25_175, m25_178, m25_180i, m25_182, m25_184, m25_186, m25_189, m25_192, m25_194, m25_195, m25_196, m25_198, m25_200, m25_201, m25_202, m25_203, m25_205, m25_207, m25_209, m25_212, m25_214, m25_216, m25_217, m25_219, m25_222, m25_224, m25_226, m25_229, m25_231, m25_233, m25_234, m25_236, m25_239, m25_241, m25_243, m25_246, m25_248, m25_250, m25_251, m25_253, m25_256, m25_258, m25_260, m25_261, m25_263, m25_266, m25_269, m25_271, m25_272, m25_275, m25_277, m25_280, m25_281, m25_283, m25_284, m25_286, m25_287, m25_289, m25_290, m25_292, m25_293i, m25_295, m25_297, m25_299, m25_302, m25_303, m25_304, m25_305i, m25_307, m25_310, m25_312, m25_314, m25_317, m25_319, m25_321, m25_322, m25_325, m25_327, m25_330, m25_331, m25_333, m25_334, m25_336, m25_337, m25_339, m25_340, m25_342, m25_343i, m25_345, m25_346i, m25_348, m25_351, m25_353, m25_355, m25_356, m25_357, m25_360, m25_361, m25_364, m25_366, m25_367, m25_368, m25_371, m25_373, m25_376, m25_378, m25_380, m25_381, m25_382, m25_383, m25_384, m25_387, m25_388, m25_390, m25_393u, m25_393i, m25_393r, m25_393g, m25_395, m25_397, m25_400u, m25_400i, m25_400r, m25_400g, m25_402, m25_404, m25_406, m25_409, m25_410, m25_411, m25_412u, m25_412i, m25_412r, m25_412g, m25_414, m25_415u, m25_415i, m25_415r, m25_415g, m25_417, m25_418u, m25_418i, m25_418r, m25_418g, m25_422, m25_424, m25_425, m25_427, m25_430, m25_431u, m25_431i, m25_431r, m25_431g, m25_433, m25_434u, m25_434i, m25_434r, m25_434g, m25_438, m25_440, m25_443, m25_445, m25_447, m25_449, m25_450, m25_453, m25_455, m25_457, m25_459, m25_461, m25_463, m25_466, m25_469, m25_470i, m25_472, m25_475, m25_478, m25_481, m25_483, m25_486, m25_489, m25_491, m25_494, m25_496i, m25_498, m25_501, m25_504, m25_506, m25_509, m25_511, m25_514, m25_515, m25_516, m25_518, m25_521, m25_523, m25_524, m25_527, m25_528, m25_531, m25_532, m25_535, m25_536, m25_539, m25_542, m25_544, m25_547, m25_548, m25_549, m25_552, m25_555, m25_556, nb0, nb1, ou_a, Option.toList_some, Option.toList_none, List.nil_append, List.cons_append]
    exact tail 0
set_option maxRecDepth 1000000 in
set_option maxHeartbeats 20000000 in
theorem opP {v : Int32} {k a c : Nat} (h : OX al cap n m w p s A) (hp : PQ x0 x1 x2 x3 m p) (hcu : cu ≤ 64) (o20 : okS l20) (o21 : okP l21 l22) (o23 : okS l23)  (hq : ∀ n' m' w' p' x0' x1' x2' x3' cu' l17 l18 l19 l20 l21 l22 l23 s' A', OX al cap n' m' w' p' s' A' → PQ x0' x1' x2' x3' m' p' → cu' ≤ 64 → okS l17 → okS l18 → okS l19 → okS l20 → okP l21 l22 → okS l23 → M25 388 [.val (.ref 0), l1, l2, .val (.int (nI al)), .val (.ref 1), .val (.long x0'), .second, .val (.long x1'), .second, .val (.long x2'), .second, .val (.long x3'), .second, .val (.int (nI m')), .val (.int (nI cu')), .val (.int (nI en)), .val (.int (nI t)), l17, l18, l19, l20, l21, l22, l23] [] (put 1 [((FieldType.array .int, vs.map Value.int) : FieldType × List Value)] s' A' []) Q) (hm : m < 64) (hc : c < al) : M25 182 [.val (.ref 0), l1, l2, .val (.int (nI al)), .val (.ref 1), .val (.long x0), .second, .val (.long x1), .second, .val (.long x2), .second, .val (.long x3), .second, .val (.int (nI m)), .val (.int (nI cu)), .val (.int (nI en)), .val (.int (nI t)), .val (.int (v)), .val (.int (nI k)), .val (.int (nI a)), .val (.int (nI c)), l21, l22, l23] [] (put 1 [((FieldType.array .int, vs.map Value.int) : FieldType × List Value)] s A []) Q := by
  obtain ⟨a8, n6, m6, pl, wl⟩ := al8 h
  obtain ⟨g0, g1, g2, g3⟩ := PQ_s (c := c) hp hm (by omega)
  have e15 := a15 hm
  simp [m25_0, m25_1, m25_2, m25_5, m25_7, m25_10u, m25_11, m25_12, m25_13, m25_16, m25_18, m25_21u, m25_22, m25_23, m25_26u, m25_27, m25_30, m25_31, m25_32, m25_33, m25_36u, m25_38, m25_39, m25_41, m25_42, m25_44, m25_45, m25_47, m25_48, m25_50, m25_51u, m25_53, m25_54u, m25_56, m25_57, m25_57p, m25_58, m25_59, m25_62, m25_63, m25_66, m25_67, m25_67p, m25_68u, m25_70, m25_71u, m25_75, m25_77, m25_80, m25_82, m25_83, m25_86, m25_87, m25_89, m25_89p, m25_90u, m25_90i, m25_90r, m25_90g, m25_92, m25_94, m25_96, m25_97u, m25_97i, m25_97r, m25_97g, m25_99, m25_101, m25_102, m25_103u, m25_103i, m25_103r, m25_103g, m25_105, m25_107, m25_108, m25_111, m25_113, m25_115, m25_116, m25_117, m25_120, m25_121, m25_124, m25_126, m25_127, m25_130, m25_132, m25_133, m25_136, m25_138, m25_140, m25_143, m25_145, m25_146, m25_147u, m25_147i, m25_147r, m25_147g, m25_149, m25_151, m25_152, m25_155, m25_157, m25_159, m25_161, m25_162, m25_165u, m25_165i, m25_165r, m25_165g, m25_167, m25_169, m25_172, m25_174, m25_175, m25_178, m25_180i, m25_182, m25_184, m25_186, m25_189, m25_192, m25_194, m25_195, m25_196, m25_198, m25_200, m25_201, m25_202, m25_203, m25_205, m25_207, m25_209, m25_212, m25_214, m25_216, m25_217, m25_219, m25_222, m25_224, m25_226, m25_229, m25_231, m25_233, m25_234, m25_236, m25_239, m25_241, m25_243, m25_246, m25_248, m25_250, m25_251, m25_253, m25_256, m25_258, m25_260, m25_261, m25_263, m25_266, m25_269, m25_271, m25_272, m25_275, m25_277, m25_280, m25_281, m25_283, m25_284, m25_286, m25_287, m25_289, m25_290, m25_292, m25_293i, m25_295, m25_297, m25_299, m25_302, m25_303, m25_304, m25_305i, m25_307, m25_310, m25_312, m25_314, m25_317, m25_319, m25_321, m25_322, m25_325, m25_327, m25_330, m25_331, m25_333, m25_334, m25_336, m25_337, m25_339, m25_340, m25_342, m25_343i, m25_345, m25_346i, m25_348, m25_351, m25_353, m25_355, m25_356, m25_357, m25_360, m25_361, m25_364, m25_366, m25_367, m25_368, m25_371, m25_373, m25_376, m25_378, m25_380, m25_381, m25_382, m25_383, m25_384, m25_387, m25_388, m25_390, m25_393u, m25_393i, m25_393r, m25_393g, m25_395, m25_397, m25_400u, m25_400i, m25_400r, m25_400g, m25_402, m25_404, m25_406, m25_409, m25_410, m25_411, m25_412u, m25_412i, m25_412r, m25_412g, m25_414, m25_415u, m25_415i, m25_415r, m25_415g, m25_417, m25_418u, m25_418i, m25_418r, m25_418g, m25_422, m25_424, m25_425, m25_427, m25_430, m25_431u, m25_431i, m25_431r, m25_431g, m25_433, m25_434u, m25_434i, m25_434r, m25_434g, m25_438, m25_440, m25_443, m25_445, m25_447, m25_449, m25_450, m25_453, m25_455, m25_457, m25_459, m25_461, m25_463, m25_466, m25_469, m25_470i, m25_472, m25_475, m25_478, m25_481, m25_483, m25_486, m25_489, m25_491, m25_494, m25_496i, m25_498, m25_501, m25_504, m25_506, m25_509, m25_511, m25_514, m25_515, m25_516, m25_518, m25_521, m25_523, m25_524, m25_527, m25_528, m25_531, m25_532, m25_535, m25_536, m25_537, m25_539, m25_542, m25_544, m25_547, m25_548, m25_549, m25_552, m25_555, m25_556, nb0, nb1, ou_a, Option.toList_some, Option.toList_none, List.nil_append, List.cons_append]
  refine ppW (b := 0) h hc hm (fun s1 A1 h' => ?_)
  obtain ⟨Z, hZ⟩ : ∃ Z, (nI c).toInt64 <<< ((3 * nI (m % 16)).toInt64 &&& 63) = Z := ⟨_, rfl⟩
  have r203 := own_law_203 (H := (put 1 [((FieldType.array .int, vs.map Value.int) : FieldType × List Value)] s1 A1 [])) (Q := Q) (st := []) (J1 := Z) (l0 := .val (.ref 0)) (l1 := l1) (l2 := l2) (l3 := .val (.int (nI al))) (l4 := .val (.ref 1)) (l5 := .val (.long x0)) (l6 := .second) (l7 := .val (.long x1)) (l8 := .second) (l9 := .val (.long x2)) (l10 := .second) (l11 := .val (.long x3)) (l12 := .second) (l13 := .val (.int (nI m))) (l14 := .val (.int (nI cu))) (l15 := .val (.int (nI en))) (l16 := .val (.int (nI t))) (l17 := .val (.int (v))) (l18 := .val (.int (nI k))) (l19 := .val (.int (nI a))) (l20 := .val (.int (nI c))) (l23 := l23) o21
  rw [hZ] at g0 g1 g2 g3
  simp [e15, hZ, m25_0, m25_1, m25_2, m25_5, m25_7, m25_10u, m25_11, m25_12, m25_13, m25_16, m25_18, m25_21u, m25_22, m25_23, m25_26u, m25_27, m25_30, m25_31, m25_32, m25_33, m25_36u, m25_38, m25_39, m25_41, m25_42, m25_44, m25_45, m25_47, m25_48, m25_50, m25_51u, m25_53, m25_54u, m25_56, m25_57, m25_57p, m25_58, m25_59, m25_62, m25_63, m25_66, m25_67, m25_67p, m25_68u, m25_70, m25_71u, m25_75, m25_77, m25_80, m25_82, m25_83, m25_86, m25_87, m25_89, m25_89p, m25_90u, m25_90i, m25_90r, m25_90g, m25_92, m25_94, m25_96, m25_97u, m25_97i, m25_97r, m25_97g, m25_99, m25_101, m25_102, m25_103u, m25_103i, m25_103r, m25_103g, m25_105, m25_107, m25_108, m25_111, m25_113, m25_115, m25_116, m25_117, m25_120, m25_121, m25_124, m25_126, m25_127, m25_130, m25_132, m25_133, m25_136, m25_138, m25_140, m25_143, m25_145, m25_146, m25_147u, m25_147i, m25_147r, m25_147g, m25_149, m25_151, m25_152, m25_155, m25_157, m25_159, m25_161, m25_162, m25_165u, m25_165i, m25_165r, m25_165g, m25_167, m25_169, m25_172, m25_174, m25_175, m25_178, m25_180i, m25_182, m25_184, m25_186, m25_189, m25_192, m25_194, m25_195, m25_196, m25_198, m25_200, m25_201, m25_202, m25_205, m25_207, m25_209, m25_212, m25_214, m25_216, m25_217, m25_219, m25_222, m25_224, m25_226, m25_229, m25_231, m25_233, m25_234, m25_236, m25_239, m25_241, m25_243, m25_246, m25_248, m25_250, m25_251, m25_253, m25_256, m25_258, m25_260, m25_261, m25_263, m25_266, m25_269, m25_271, m25_272, m25_275, m25_277, m25_280, m25_281, m25_283, m25_284, m25_286, m25_287, m25_289, m25_290, m25_292, m25_293i, m25_295, m25_297, m25_299, m25_302, m25_303, m25_304, m25_305i, m25_307, m25_310, m25_312, m25_314, m25_317, m25_319, m25_321, m25_322, m25_325, m25_327, m25_330, m25_331, m25_333, m25_334, m25_336, m25_337, m25_339, m25_340, m25_342, m25_343i, m25_345, m25_346i, m25_348, m25_351, m25_353, m25_355, m25_356, m25_357, m25_360, m25_361, m25_364, m25_366, m25_367, m25_368, m25_371, m25_373, m25_376, m25_378, m25_380, m25_381, m25_382, m25_383, m25_384, m25_387, m25_388, m25_390, m25_393u, m25_393i, m25_393r, m25_393g, m25_395, m25_397, m25_400u, m25_400i, m25_400r, m25_400g, m25_402, m25_404, m25_406, m25_409, m25_410, m25_411, m25_412u, m25_412i, m25_412r, m25_412g, m25_414, m25_415u, m25_415i, m25_415r, m25_415g, m25_417, m25_418u, m25_418i, m25_418r, m25_418g, m25_422, m25_424, m25_425, m25_427, m25_430, m25_431u, m25_431i, m25_431r, m25_431g, m25_433, m25_434u, m25_434i, m25_434r, m25_434g, m25_438, m25_440, m25_443, m25_445, m25_447, m25_449, m25_450, m25_453, m25_455, m25_457, m25_459, m25_461, m25_463, m25_466, m25_469, m25_470i, m25_472, m25_475, m25_478, m25_481, m25_483, m25_486, m25_489, m25_491, m25_494, m25_496i, m25_498, m25_501, m25_504, m25_506, m25_509, m25_511, m25_514, m25_515, m25_516, m25_518, m25_521, m25_523, m25_524, m25_527, m25_528, m25_531, m25_532, m25_535, m25_536, m25_537, m25_539, m25_542, m25_544, m25_547, m25_548, m25_549, m25_552, m25_555, m25_556, nb0, nb1, ou_a, Option.toList_some, Option.toList_none, List.nil_append, List.cons_append]
  rw [r203]
  by_cases c0 : m < 16
  · have d0 : (nI m < 16) = True := lT (c := 16) c0 (by decide)
    simp [d0, nI_1, m25_0, m25_1, m25_2, m25_5, m25_7, m25_10u, m25_11, m25_12, m25_13, m25_16, m25_18, m25_21u, m25_22, m25_23, m25_26u, m25_27, m25_30, m25_31, m25_32, m25_33, m25_36u, m25_38, m25_39, m25_41, m25_42, m25_44, m25_45, m25_47, m25_48, m25_50, m25_51u, m25_53, m25_54u, m25_56, m25_57, m25_57p, m25_58, m25_59, m25_62, m25_63, m25_66, m25_67, m25_67p, m25_68u, m25_70, m25_71u, m25_75, m25_77, m25_80, m25_82, m25_83, m25_86, m25_87, m25_89, m25_89p, m25_90u, m25_90i, m25_90r, m25_90g, m25_92, m25_94, m25_96, m25_97u, m25_97i, m25_97r, m25_97g, m25_99, m25_101, m25_102, m25_103u, m25_103i, m25_103r, m25_103g, m25_105, m25_107, m25_108, m25_111, m25_113, m25_115, m25_116, m25_117, m25_120, m25_121, m25_124, m25_126, m25_127, m25_130, m25_132, m25_133, m25_136, m25_138, m25_140, m25_143, m25_145, m25_146, m25_147u, m25_147i, m25_147r, m25_147g, m25_149, m25_151, m25_152, m25_155, m25_157, m25_159, m25_161, m25_162, m25_165u, m25_165i, m25_165r, m25_165g, m25_167, m25_169, m25_172, m25_174, m25_175, m25_178, m25_180i, m25_182, m25_184, m25_186, m25_189, m25_192, m25_194, m25_195, m25_196, m25_198, m25_200, m25_201, m25_202, m25_203, m25_205, m25_207, m25_209, m25_212, m25_214, m25_216, m25_217, m25_219, m25_222, m25_224, m25_226, m25_229, m25_231, m25_233, m25_234, m25_236, m25_239, m25_241, m25_243, m25_246, m25_248, m25_250, m25_251, m25_253, m25_256, m25_258, m25_260, m25_261, m25_263, m25_266, m25_269, m25_271, m25_272, m25_275, m25_277, m25_280, m25_281, m25_283, m25_284, m25_286, m25_287, m25_289, m25_290, m25_292, m25_293i, m25_295, m25_297, m25_299, m25_302, m25_303, m25_304, m25_305i, m25_307, m25_310, m25_312, m25_314, m25_317, m25_319, m25_321, m25_322, m25_325, m25_327, m25_330, m25_331, m25_333, m25_334, m25_336, m25_337, m25_339, m25_340, m25_342, m25_343i, m25_345, m25_346i, m25_348, m25_351, m25_353, m25_355, m25_356, m25_357, m25_360, m25_361, m25_364, m25_366, m25_367, m25_368, m25_371, m25_373, m25_376, m25_378, m25_380, m25_381, m25_382, m25_383, m25_384, m25_387, m25_390, m25_393u, m25_393i, m25_393r, m25_393g, m25_395, m25_397, m25_400u, m25_400i, m25_400r, m25_400g, m25_402, m25_404, m25_406, m25_409, m25_410, m25_411, m25_412u, m25_412i, m25_412r, m25_412g, m25_414, m25_415u, m25_415i, m25_415r, m25_415g, m25_417, m25_418u, m25_418i, m25_418r, m25_418g, m25_422, m25_424, m25_425, m25_427, m25_430, m25_431u, m25_431i, m25_431r, m25_431g, m25_433, m25_434u, m25_434i, m25_434r, m25_434g, m25_438, m25_440, m25_443, m25_445, m25_447, m25_449, m25_450, m25_453, m25_455, m25_457, m25_459, m25_461, m25_463, m25_466, m25_469, m25_470i, m25_472, m25_475, m25_478, m25_481, m25_483, m25_486, m25_489, m25_491, m25_494, m25_496i, m25_498, m25_501, m25_504, m25_506, m25_509, m25_511, m25_514, m25_515, m25_516, m25_518, m25_521, m25_523, m25_524, m25_527, m25_528, m25_531, m25_532, m25_535, m25_536, m25_537, m25_539, m25_542, m25_544, m25_547, m25_548, m25_549, m25_552, m25_555, m25_556, nb0, nb1, ou_a, Option.toList_some, Option.toList_none, List.nil_append, List.cons_append]
    exact hq n (m + 1) w _ _ x1 x2 x3 cu _ _ _ _ _ _ _ s1 A1 h' (g0 c0) hcu (okS_i _) (okS_n _) (okS_n _) (okS_n _) (okP_l _) o23
  have d0 : (nI m < 16) = False := lF (c := 16) (by omega) (by omega)
  by_cases c1 : m < 32
  · have d1 : (nI m < 32) = True := lT (c := 32) c1 (by decide)
    simp [d0, d1, nI_1, m25_0, m25_1, m25_2, m25_5, m25_7, m25_10u, m25_11, m25_12, m25_13, m25_16, m25_18, m25_21u, m25_22, m25_23, m25_26u, m25_27, m25_30, m25_31, m25_32, m25_33, m25_36u, m25_38, m25_39, m25_41, m25_42, m25_44, m25_45, m25_47, m25_48, m25_50, m25_51u, m25_53, m25_54u, m25_56, m25_57, m25_57p, m25_58, m25_59, m25_62, m25_63, m25_66, m25_67, m25_67p, m25_68u, m25_70, m25_71u, m25_75, m25_77, m25_80, m25_82, m25_83, m25_86, m25_87, m25_89, m25_89p, m25_90u, m25_90i, m25_90r, m25_90g, m25_92, m25_94, m25_96, m25_97u, m25_97i, m25_97r, m25_97g, m25_99, m25_101, m25_102, m25_103u, m25_103i, m25_103r, m25_103g, m25_105, m25_107, m25_108, m25_111, m25_113, m25_115, m25_116, m25_117, m25_120, m25_121, m25_124, m25_126, m25_127, m25_130, m25_132, m25_133, m25_136, m25_138, m25_140, m25_143, m25_145, m25_146, m25_147u, m25_147i, m25_147r, m25_147g, m25_149, m25_151, m25_152, m25_155, m25_157, m25_159, m25_161, m25_162, m25_165u, m25_165i, m25_165r, m25_165g, m25_167, m25_169, m25_172, m25_174, m25_175, m25_178, m25_180i, m25_182, m25_184, m25_186, m25_189, m25_192, m25_194, m25_195, m25_196, m25_198, m25_200, m25_201, m25_202, m25_203, m25_205, m25_207, m25_209, m25_212, m25_214, m25_216, m25_217, m25_219, m25_222, m25_224, m25_226, m25_229, m25_231, m25_233, m25_234, m25_236, m25_239, m25_241, m25_243, m25_246, m25_248, m25_250, m25_251, m25_253, m25_256, m25_258, m25_260, m25_261, m25_263, m25_266, m25_269, m25_271, m25_272, m25_275, m25_277, m25_280, m25_281, m25_283, m25_284, m25_286, m25_287, m25_289, m25_290, m25_292, m25_293i, m25_295, m25_297, m25_299, m25_302, m25_303, m25_304, m25_305i, m25_307, m25_310, m25_312, m25_314, m25_317, m25_319, m25_321, m25_322, m25_325, m25_327, m25_330, m25_331, m25_333, m25_334, m25_336, m25_337, m25_339, m25_340, m25_342, m25_343i, m25_345, m25_346i, m25_348, m25_351, m25_353, m25_355, m25_356, m25_357, m25_360, m25_361, m25_364, m25_366, m25_367, m25_368, m25_371, m25_373, m25_376, m25_378, m25_380, m25_381, m25_382, m25_383, m25_384, m25_387, m25_390, m25_393u, m25_393i, m25_393r, m25_393g, m25_395, m25_397, m25_400u, m25_400i, m25_400r, m25_400g, m25_402, m25_404, m25_406, m25_409, m25_410, m25_411, m25_412u, m25_412i, m25_412r, m25_412g, m25_414, m25_415u, m25_415i, m25_415r, m25_415g, m25_417, m25_418u, m25_418i, m25_418r, m25_418g, m25_422, m25_424, m25_425, m25_427, m25_430, m25_431u, m25_431i, m25_431r, m25_431g, m25_433, m25_434u, m25_434i, m25_434r, m25_434g, m25_438, m25_440, m25_443, m25_445, m25_447, m25_449, m25_450, m25_453, m25_455, m25_457, m25_459, m25_461, m25_463, m25_466, m25_469, m25_470i, m25_472, m25_475, m25_478, m25_481, m25_483, m25_486, m25_489, m25_491, m25_494, m25_496i, m25_498, m25_501, m25_504, m25_506, m25_509, m25_511, m25_514, m25_515, m25_516, m25_518, m25_521, m25_523, m25_524, m25_527, m25_528, m25_531, m25_532, m25_535, m25_536, m25_537, m25_539, m25_542, m25_544, m25_547, m25_548, m25_549, m25_552, m25_555, m25_556, nb0, nb1, ou_a, Option.toList_some, Option.toList_none, List.nil_append, List.cons_append]
    exact hq n (m + 1) w _ x0 _ x2 x3 cu _ _ _ _ _ _ _ s1 A1 h' (g1 (by omega) c1) hcu (okS_i _) (okS_n _) (okS_n _) (okS_n _) (okP_l _) o23
  have d1 : (nI m < 32) = False := lF (c := 32) (by omega) (by omega)
  by_cases c2 : m < 48
  · have d2 : (nI m < 48) = True := lT (c := 48) c2 (by decide)
    simp [d0, d1, d2, nI_1, m25_0, m25_1, m25_2, m25_5, m25_7, m25_10u, m25_11, m25_12, m25_13, m25_16, m25_18, m25_21u, m25_22, m25_23, m25_26u, m25_27, m25_30, m25_31, m25_32, m25_33, m25_36u, m25_38, m25_39, m25_41, m25_42, m25_44, m25_45, m25_47, m25_48, m25_50, m25_51u, m25_53, m25_54u, m25_56, m25_57, m25_57p, m25_58, m25_59, m25_62, m25_63, m25_66, m25_67, m25_67p, m25_68u, m25_70, m25_71u, m25_75, m25_77, m25_80, m25_82, m25_83, m25_86, m25_87, m25_89, m25_89p, m25_90u, m25_90i, m25_90r, m25_90g, m25_92, m25_94, m25_96, m25_97u, m25_97i, m25_97r, m25_97g, m25_99, m25_101, m25_102, m25_103u, m25_103i, m25_103r, m25_103g, m25_105, m25_107, m25_108, m25_111, m25_113, m25_115, m25_116, m25_117, m25_120, m25_121, m25_124, m25_126, m25_127, m25_130, m25_132, m25_133, m25_136, m25_138, m25_140, m25_143, m25_145, m25_146, m25_147u, m25_147i, m25_147r, m25_147g, m25_149, m25_151, m25_152, m25_155, m25_157, m25_159, m25_161, m25_162, m25_165u, m25_165i, m25_165r, m25_165g, m25_167, m25_169, m25_172, m25_174, m25_175, m25_178, m25_180i, m25_182, m25_184, m25_186, m25_189, m25_192, m25_194, m25_195, m25_196, m25_198, m25_200, m25_201, m25_202, m25_203, m25_205, m25_207, m25_209, m25_212, m25_214, m25_216, m25_217, m25_219, m25_222, m25_224, m25_226, m25_229, m25_231, m25_233, m25_234, m25_236, m25_239, m25_241, m25_243, m25_246, m25_248, m25_250, m25_251, m25_253, m25_256, m25_258, m25_260, m25_261, m25_263, m25_266, m25_269, m25_271, m25_272, m25_275, m25_277, m25_280, m25_281, m25_283, m25_284, m25_286, m25_287, m25_289, m25_290, m25_292, m25_293i, m25_295, m25_297, m25_299, m25_302, m25_303, m25_304, m25_305i, m25_307, m25_310, m25_312, m25_314, m25_317, m25_319, m25_321, m25_322, m25_325, m25_327, m25_330, m25_331, m25_333, m25_334, m25_336, m25_337, m25_339, m25_340, m25_342, m25_343i, m25_345, m25_346i, m25_348, m25_351, m25_353, m25_355, m25_356, m25_357, m25_360, m25_361, m25_364, m25_366, m25_367, m25_368, m25_371, m25_373, m25_376, m25_378, m25_380, m25_381, m25_382, m25_383, m25_384, m25_387, m25_390, m25_393u, m25_393i, m25_393r, m25_393g, m25_395, m25_397, m25_400u, m25_400i, m25_400r, m25_400g, m25_402, m25_404, m25_406, m25_409, m25_410, m25_411, m25_412u, m25_412i, m25_412r, m25_412g, m25_414, m25_415u, m25_415i, m25_415r, m25_415g, m25_417, m25_418u, m25_418i, m25_418r, m25_418g, m25_422, m25_424, m25_425, m25_427, m25_430, m25_431u, m25_431i, m25_431r, m25_431g, m25_433, m25_434u, m25_434i, m25_434r, m25_434g, m25_438, m25_440, m25_443, m25_445, m25_447, m25_449, m25_450, m25_453, m25_455, m25_457, m25_459, m25_461, m25_463, m25_466, m25_469, m25_470i, m25_472, m25_475, m25_478, m25_481, m25_483, m25_486, m25_489, m25_491, m25_494, m25_496i, m25_498, m25_501, m25_504, m25_506, m25_509, m25_511, m25_514, m25_515, m25_516, m25_518, m25_521, m25_523, m25_524, m25_527, m25_528, m25_531, m25_532, m25_535, m25_536, m25_537, m25_539, m25_542, m25_544, m25_547, m25_548, m25_549, m25_552, m25_555, m25_556, nb0, nb1, ou_a, Option.toList_some, Option.toList_none, List.nil_append, List.cons_append]
    exact hq n (m + 1) w _ x0 x1 _ x3 cu _ _ _ _ _ _ _ s1 A1 h' (g2 (by omega) c2) hcu (okS_i _) (okS_n _) (okS_n _) (okS_n _) (okP_l _) o23
  have d2 : (nI m < 48) = False := lF (c := 48) (by omega) (by omega)
  simp [d0, d1, d2, nI_1, m25_0, m25_1, m25_2, m25_5, m25_7, m25_10u, m25_11, m25_12, m25_13, m25_16, m25_18, m25_21u, m25_22, m25_23, m25_26u, m25_27, m25_30, m25_31, m25_32, m25_33, m25_36u, m25_38, m25_39, m25_41, m25_42, m25_44, m25_45, m25_47, m25_48, m25_50, m25_51u, m25_53, m25_54u, m25_56, m25_57, m25_57p, m25_58, m25_59, m25_62, m25_63, m25_66, m25_67, m25_67p, m25_68u, m25_70, m25_71u, m25_75, m25_77, m25_80, m25_82, m25_83, m25_86, m25_87, m25_89, m25_89p, m25_90u, m25_90i, m25_90r, m25_90g, m25_92, m25_94, m25_96, m25_97u, m25_97i, m25_97r, m25_97g, m25_99, m25_101, m25_102, m25_103u, m25_103i, m25_103r, m25_103g, m25_105, m25_107, m25_108, m25_111, m25_113, m25_115, m25_116, m25_117, m25_120, m25_121, m25_124, m25_126, m25_127, m25_130, m25_132, m25_133, m25_136, m25_138, m25_140, m25_143, m25_145, m25_146, m25_147u, m25_147i, m25_147r, m25_147g, m25_149, m25_151, m25_152, m25_155, m25_157, m25_159, m25_161, m25_162, m25_165u, m25_165i, m25_165r, m25_165g, m25_167, m25_169, m25_172, m25_174, m25_175, m25_178, m25_180i, m25_182, m25_184, m25_186, m25_189, m25_192, m25_194, m25_195, m25_196, m25_198, m25_200, m25_201, m25_202, m25_203, m25_205, m25_207, m25_209, m25_212, m25_214, m25_216, m25_217, m25_219, m25_222, m25_224, m25_226, m25_229, m25_231, m25_233, m25_234, m25_236, m25_239, m25_241, m25_243, m25_246, m25_248, m25_250, m25_251, m25_253, m25_256, m25_258, m25_260, m25_261, m25_263, m25_266, m25_269, m25_271, m25_272, m25_275, m25_277, m25_280, m25_281, m25_283, m25_284, m25_286, m25_287, m25_289, m25_290, m25_292, m25_293i, m25_295, m25_297, m25_299, m25_302, m25_303, m25_304, m25_305i, m25_307, m25_310, m25_312, m25_314, m25_317, m25_319, m25_321, m25_322, m25_325, m25_327, m25_330, m25_331, m25_333, m25_334, m25_336, m25_337, m25_339, m25_340, m25_342, m25_343i, m25_345, m25_346i, m25_348, m25_351, m25_353, m25_355, m25_356, m25_357, m25_360, m25_361, m25_364, m25_366, m25_367, m25_368, m25_371, m25_373, m25_376, m25_378, m25_380, m25_381, m25_382, m25_383, m25_384, m25_387, m25_390, m25_393u, m25_393i, m25_393r, m25_393g, m25_395, m25_397, m25_400u, m25_400i, m25_400r, m25_400g, m25_402, m25_404, m25_406, m25_409, m25_410, m25_411, m25_412u, m25_412i, m25_412r, m25_412g, m25_414, m25_415u, m25_415i, m25_415r, m25_415g, m25_417, m25_418u, m25_418i, m25_418r, m25_418g, m25_422, m25_424, m25_425, m25_427, m25_430, m25_431u, m25_431i, m25_431r, m25_431g, m25_433, m25_434u, m25_434i, m25_434r, m25_434g, m25_438, m25_440, m25_443, m25_445, m25_447, m25_449, m25_450, m25_453, m25_455, m25_457, m25_459, m25_461, m25_463, m25_466, m25_469, m25_470i, m25_472, m25_475, m25_478, m25_481, m25_483, m25_486, m25_489, m25_491, m25_494, m25_496i, m25_498, m25_501, m25_504, m25_506, m25_509, m25_511, m25_514, m25_515, m25_516, m25_518, m25_521, m25_523, m25_524, m25_527, m25_528, m25_531, m25_532, m25_535, m25_536, m25_537, m25_539, m25_542, m25_544, m25_547, m25_548, m25_549, m25_552, m25_555, m25_556, nb0, nb1, ou_a, Option.toList_some, Option.toList_none, List.nil_append, List.cons_append]
  exact hq n (m + 1) w _ x0 x1 x2 _ cu _ _ _ _ _ _ _ s1 A1 h' (g3 (by omega)) hcu (okS_i _) (okS_n _) (okS_n _) (okS_n _) (okP_l _) o23
theorem opA {v : Int32} {k a : Nat} (ha : a < 2147483648) (hk : k < 8) (h : OX al cap n m w p s A) (hp : PQ x0 x1 x2 x3 m p) (hcu : cu ≤ 64) (o20 : okS l20) (o21 : okP l21 l22) (o23 : okS l23)  (hq : ∀ n' m' w' p' x0' x1' x2' x3' cu' l17 l18 l19 l20 l21 l22 l23 s' A', OX al cap n' m' w' p' s' A' → PQ x0' x1' x2' x3' m' p' → cu' ≤ 64 → okS l17 → okS l18 → okS l19 → okS l20 → okP l21 l22 → okS l23 → M25 388 [.val (.ref 0), l1, l2, .val (.int (nI al)), .val (.ref 1), .val (.long x0'), .second, .val (.long x1'), .second, .val (.long x2'), .second, .val (.long x3'), .second, .val (.int (nI m')), .val (.int (nI cu')), .val (.int (nI en)), .val (.int (nI t)), l17, l18, l19, l20, l21, l22, l23] [] (put 1 [((FieldType.array .int, vs.map Value.int) : FieldType × List Value)] s' A' []) Q) : M25 105 [.val (.ref 0), l1, l2, .val (.int (nI al)), .val (.ref 1), .val (.long x0), .second, .val (.long x1), .second, .val (.long x2), .second, .val (.long x3), .second, .val (.int (nI m)), .val (.int (nI cu)), .val (.int (nI en)), .val (.int (nI t)), .val (.int (v)), .val (.int (nI k)), .val (.int (nI a)), l20, l21, l22, l23] [] (put 1 [((FieldType.array .int, vs.map Value.int) : FieldType × List Value)] s A []) Q := by
  obtain ⟨a8, n6, m6, pl, wl⟩ := al8 h
  have s2 : s 2 = nI n := by
    obtain ⟨N, lab, lk, nx, fe, cl, last, h⟩ := h
    exact h.s2
  have nz : (nI al = 0) = False := n0T (by omega) (by omega)
  have em : nI a % nI al = nI (a % al) := nI_mod ha (by omega)
  have ml : a % al < al := Nat.mod_lt _ (by omega)
  by_cases z2 : k ≤ 2
  · have c2 : (2 < nI k) = False := lF (a := 2) (by omega) (by decide)
    simp [c2, nz, em, m25_0, m25_1, m25_2, m25_5, m25_7, m25_10u, m25_11, m25_12, m25_13, m25_16, m25_18, m25_21u, m25_22, m25_23, m25_26u, m25_27, m25_30, m25_31, m25_32, m25_33, m25_36u, m25_38, m25_39, m25_41, m25_42, m25_44, m25_45, m25_47, m25_48, m25_50, m25_51u, m25_53, m25_54u, m25_56, m25_57, m25_57p, m25_58, m25_59, m25_62, m25_63, m25_66, m25_67, m25_67p, m25_68u, m25_70, m25_71u, m25_75, m25_77, m25_80, m25_82, m25_83, m25_86, m25_87, m25_89, m25_89p, m25_90u, m25_90i, m25_90r, m25_90g, m25_92, m25_94, m25_96, m25_97u, m25_97i, m25_97r, m25_97g, m25_99, m25_101, m25_102, m25_103u, m25_103i, m25_103r, m25_103g, m25_105, m25_107, m25_108, m25_111, m25_113, m25_115, m25_116, m25_117, m25_120, m25_121, m25_124, m25_126, m25_127, m25_130, m25_132, m25_133, m25_136, m25_138, m25_140, m25_143, m25_145, m25_146, m25_147u, m25_147i, m25_147r, m25_147g, m25_149, m25_151, m25_152, m25_155, m25_157, m25_159, m25_161, m25_162, m25_165u, m25_165i, m25_165r, m25_165g, m25_167, m25_169, m25_172, m25_174, m25_175, m25_178, m25_180i, m25_182, m25_184, m25_186, m25_189, m25_192, m25_194, m25_195, m25_196, m25_198, m25_200, m25_201, m25_202, m25_203, m25_205, m25_207, m25_209, m25_212, m25_214, m25_216, m25_217, m25_219, m25_222, m25_224, m25_226, m25_229, m25_231, m25_233, m25_234, m25_236, m25_239, m25_241, m25_243, m25_246, m25_248, m25_250, m25_251, m25_253, m25_256, m25_258, m25_260, m25_261, m25_263, m25_266, m25_269, m25_271, m25_272, m25_275, m25_277, m25_280, m25_281, m25_283, m25_284, m25_286, m25_287, m25_289, m25_290, m25_292, m25_293i, m25_295, m25_297, m25_299, m25_302, m25_303, m25_304, m25_305i, m25_307, m25_310, m25_312, m25_314, m25_317, m25_319, m25_321, m25_322, m25_325, m25_327, m25_330, m25_331, m25_333, m25_334, m25_336, m25_337, m25_339, m25_340, m25_342, m25_343i, m25_345, m25_346i, m25_348, m25_351, m25_353, m25_355, m25_356, m25_357, m25_360, m25_361, m25_364, m25_366, m25_367, m25_368, m25_371, m25_373, m25_376, m25_378, m25_380, m25_381, m25_382, m25_383, m25_384, m25_387, m25_390, m25_393u, m25_393i, m25_393r, m25_393g, m25_395, m25_397, m25_400u, m25_400i, m25_400r, m25_400g, m25_402, m25_404, m25_406, m25_409, m25_410, m25_411, m25_412u, m25_412i, m25_412r, m25_412g, m25_414, m25_415u, m25_415i, m25_415r, m25_415g, m25_417, m25_418u, m25_418i, m25_418r, m25_418g, m25_422, m25_424, m25_425, m25_427, m25_430, m25_431u, m25_431i, m25_431r, m25_431g, m25_433, m25_434u, m25_434i, m25_434r, m25_434g, m25_438, m25_440, m25_443, m25_445, m25_447, m25_449, m25_450, m25_453, m25_455, m25_457, m25_459, m25_461, m25_463, m25_466, m25_469, m25_470i, m25_472, m25_475, m25_478, m25_481, m25_483, m25_486, m25_489, m25_491, m25_494, m25_496i, m25_498, m25_501, m25_504, m25_506, m25_509, m25_511, m25_514, m25_515, m25_516, m25_518, m25_521, m25_523, m25_524, m25_527, m25_528, m25_531, m25_532, m25_535, m25_536, m25_537, m25_539, m25_542, m25_544, m25_547, m25_548, m25_549, m25_552, m25_555, m25_556, nb0, nb1, ou_a, Option.toList_some, Option.toList_none, List.nil_append, List.cons_append]
    refine apW (b := 0) h ml (fun x n' w' s1 A1 h' _ => ?_)
    simp [m25_0, m25_1, m25_2, m25_5, m25_7, m25_10u, m25_11, m25_12, m25_13, m25_16, m25_18, m25_21u, m25_22, m25_23, m25_26u, m25_27, m25_30, m25_31, m25_32, m25_33, m25_36u, m25_38, m25_39, m25_41, m25_42, m25_44, m25_45, m25_47, m25_48, m25_50, m25_51u, m25_53, m25_54u, m25_56, m25_57, m25_57p, m25_58, m25_59, m25_62, m25_63, m25_66, m25_67, m25_67p, m25_68u, m25_70, m25_71u, m25_75, m25_77, m25_80, m25_82, m25_83, m25_86, m25_87, m25_89, m25_89p, m25_90u, m25_90i, m25_90r, m25_90g, m25_92, m25_94, m25_96, m25_97u, m25_97i, m25_97r, m25_97g, m25_99, m25_101, m25_102, m25_103u, m25_103i, m25_103r, m25_103g, m25_105, m25_107, m25_108, m25_111, m25_113, m25_115, m25_116, m25_117, m25_120, m25_121, m25_124, m25_126, m25_127, m25_130, m25_132, m25_133, m25_136, m25_138, m25_140, m25_143, m25_145, m25_146, m25_147u, m25_147i, m25_147r, m25_147g, m25_149, m25_151, m25_152, m25_155, m25_157, m25_159, m25_161, m25_162, m25_165u, m25_165i, m25_165r, m25_165g, m25_167, m25_169, m25_172, m25_174, m25_175, m25_178, m25_180i, m25_182, m25_184, m25_186, m25_189, m25_192, m25_194, m25_195, m25_196, m25_198, m25_200, m25_201, m25_202, m25_203, m25_205, m25_207, m25_209, m25_212, m25_214, m25_216, m25_217, m25_219, m25_222, m25_224, m25_226, m25_229, m25_231, m25_233, m25_234, m25_236, m25_239, m25_241, m25_243, m25_246, m25_248, m25_250, m25_251, m25_253, m25_256, m25_258, m25_260, m25_261, m25_263, m25_266, m25_269, m25_271, m25_272, m25_275, m25_277, m25_280, m25_281, m25_283, m25_284, m25_286, m25_287, m25_289, m25_290, m25_292, m25_293i, m25_295, m25_297, m25_299, m25_302, m25_303, m25_304, m25_305i, m25_307, m25_310, m25_312, m25_314, m25_317, m25_319, m25_321, m25_322, m25_325, m25_327, m25_330, m25_331, m25_333, m25_334, m25_336, m25_337, m25_339, m25_340, m25_342, m25_343i, m25_345, m25_346i, m25_348, m25_351, m25_353, m25_355, m25_356, m25_357, m25_360, m25_361, m25_364, m25_366, m25_367, m25_368, m25_371, m25_373, m25_376, m25_378, m25_380, m25_381, m25_382, m25_383, m25_384, m25_387, m25_390, m25_393u, m25_393i, m25_393r, m25_393g, m25_395, m25_397, m25_400u, m25_400i, m25_400r, m25_400g, m25_402, m25_404, m25_406, m25_409, m25_410, m25_411, m25_412u, m25_412i, m25_412r, m25_412g, m25_414, m25_415u, m25_415i, m25_415r, m25_415g, m25_417, m25_418u, m25_418i, m25_418r, m25_418g, m25_422, m25_424, m25_425, m25_427, m25_430, m25_431u, m25_431i, m25_431r, m25_431g, m25_433, m25_434u, m25_434i, m25_434r, m25_434g, m25_438, m25_440, m25_443, m25_445, m25_447, m25_449, m25_450, m25_453, m25_455, m25_457, m25_459, m25_461, m25_463, m25_466, m25_469, m25_470i, m25_472, m25_475, m25_478, m25_481, m25_483, m25_486, m25_489, m25_491, m25_494, m25_496i, m25_498, m25_501, m25_504, m25_506, m25_509, m25_511, m25_514, m25_515, m25_516, m25_518, m25_521, m25_523, m25_524, m25_527, m25_528, m25_531, m25_532, m25_535, m25_536, m25_537, m25_539, m25_542, m25_544, m25_547, m25_548, m25_549, m25_552, m25_555, m25_556, nb0, nb1, ou_a, Option.toList_some, Option.toList_none, List.nil_append, List.cons_append]
    exact hq n' m w' p x0 x1 x2 x3 cu _ _ _ _ _ _ _ s1 A1 h' hp hcu (okS_i _) (okS_n _) (okS_n _) o20 o21 o23
  have c2 : (2 < nI k) = True := lT (a := 2) (by omega) (by omega)
  by_cases z4 : k ≤ 4
  · have base : ∀ (rule : (nI k = 3) = True ∨ ((nI k = 3) = False ∧ (nI k = 4) = True)), M25 136 [.val (.ref 0), l1, l2, .val (.int (nI al)), .val (.ref 1), .val (.long x0), .second, .val (.long x1), .second, .val (.long x2), .second, .val (.long x3), .second, .val (.int (nI m)), .val (.int (nI cu)), .val (.int (nI en)), .val (.int (nI t)), .val (.int (v)), .val (.int (nI k)), .val (.int (nI a)), l20, l21, l22, l23] [] (put 1 [((FieldType.array .int, vs.map Value.int) : FieldType × List Value)] s A []) Q := by
      intro rule
      by_cases zm : m < 64
      · have cm : (nI m < 64) = True := lT (c := 64) zm (by decide)
        by_cases y : k = 4
        · have y1 : (nI k = 4) = True := eT (c := 4) y
          have fin : ∀ X : Int32, (∀ u, u < al → X = nI u → True) → ∀ l20', l20' = .val (.int (nI (a % al))) → M25 165 [.val (.ref 0), l1, l2, .val (.int (nI al)), .val (.ref 1), .val (.long x0), .second, .val (.long x1), .second, .val (.long x2), .second, .val (.long x3), .second, .val (.int (nI m)), .val (.int (nI cu)), .val (.int (nI en)), .val (.int (nI t)), .val (.int (v)), .val (.int (nI k)), .val (.int (nI a)), l20', l21, l22, l23] [.int X] (put 1 [((FieldType.array .int, vs.map Value.int) : FieldType × List Value)] s A []) Q := by
            intro X _ l20' el
            subst el
            obtain ⟨k22, ok22, e165⟩ := own_law_165 (H := (put 1 [((FieldType.array .int, vs.map Value.int) : FieldType × List Value)] s A [])) (Q := Q) (st := []) (v := X) (l0 := .val (.ref 0)) (l1 := l1) (l2 := l2) (l3 := .val (.int (nI al))) (l4 := .val (.ref 1)) (l5 := .val (.long x0)) (l6 := .second) (l7 := .val (.long x1)) (l8 := .second) (l9 := .val (.long x2)) (l10 := .second) (l11 := .val (.long x3)) (l12 := .second) (l13 := .val (.int (nI m))) (l14 := .val (.int (nI cu))) (l15 := .val (.int (nI en))) (l16 := .val (.int (nI t))) (l17 := .val (.int (v))) (l18 := .val (.int (nI k))) (l19 := .val (.int (nI a))) (l20 := .val (.int (nI (a % al)))) (l23 := l23) o21
            rw [e165]
            by_cases x1 : X < 0
            · simp [x1, m25_0, m25_1, m25_2, m25_5, m25_7, m25_10u, m25_11, m25_12, m25_13, m25_16, m25_18, m25_21u, m25_22, m25_23, m25_26u, m25_27, m25_30, m25_31, m25_32, m25_33, m25_36u, m25_38, m25_39, m25_41, m25_42, m25_44, m25_45, m25_47, m25_48, m25_50, m25_51u, m25_53, m25_54u, m25_56, m25_57, m25_57p, m25_58, m25_59, m25_62, m25_63, m25_66, m25_67, m25_67p, m25_68u, m25_70, m25_71u, m25_75, m25_77, m25_80, m25_82, m25_83, m25_86, m25_87, m25_89, m25_89p, m25_90u, m25_90i, m25_90r, m25_90g, m25_92, m25_94, m25_96, m25_97u, m25_97i, m25_97r, m25_97g, m25_99, m25_101, m25_102, m25_103u, m25_103i, m25_103r, m25_103g, m25_105, m25_107, m25_108, m25_111, m25_113, m25_115, m25_116, m25_117, m25_120, m25_121, m25_124, m25_126, m25_127, m25_130, m25_132, m25_133, m25_136, m25_138, m25_140, m25_143, m25_145, m25_146, m25_147u, m25_147i, m25_147r, m25_147g, m25_149, m25_151, m25_152, m25_155, m25_157, m25_159, m25_161, m25_162, m25_165u, m25_165i, m25_165r, m25_165g, m25_167, m25_169, m25_172, m25_174, m25_175, m25_178, m25_180i, m25_184, m25_186, m25_189, m25_192, m25_194, m25_195, m25_196, m25_198, m25_200, m25_201, m25_202, m25_203, m25_205, m25_207, m25_209, m25_212, m25_214, m25_216, m25_217, m25_219, m25_222, m25_224, m25_226, m25_229, m25_231, m25_233, m25_234, m25_236, m25_239, m25_241, m25_243, m25_246, m25_248, m25_250, m25_251, m25_253, m25_256, m25_258, m25_260, m25_261, m25_263, m25_266, m25_269, m25_271, m25_272, m25_275, m25_277, m25_280, m25_281, m25_283, m25_284, m25_286, m25_287, m25_289, m25_290, m25_292, m25_293i, m25_295, m25_297, m25_299, m25_302, m25_303, m25_304, m25_305i, m25_307, m25_310, m25_312, m25_314, m25_317, m25_319, m25_321, m25_322, m25_325, m25_327, m25_330, m25_331, m25_333, m25_334, m25_336, m25_337, m25_339, m25_340, m25_342, m25_343i, m25_345, m25_346i, m25_348, m25_351, m25_353, m25_355, m25_356, m25_357, m25_360, m25_361, m25_364, m25_366, m25_367, m25_368, m25_371, m25_373, m25_376, m25_378, m25_380, m25_381, m25_382, m25_383, m25_384, m25_387, m25_388, m25_390, m25_393u, m25_393i, m25_393r, m25_393g, m25_395, m25_397, m25_400u, m25_400i, m25_400r, m25_400g, m25_402, m25_404, m25_406, m25_409, m25_410, m25_411, m25_412u, m25_412i, m25_412r, m25_412g, m25_414, m25_415u, m25_415i, m25_415r, m25_415g, m25_417, m25_418u, m25_418i, m25_418r, m25_418g, m25_422, m25_424, m25_425, m25_427, m25_430, m25_431u, m25_431i, m25_431r, m25_431g, m25_433, m25_434u, m25_434i, m25_434r, m25_434g, m25_438, m25_440, m25_443, m25_445, m25_447, m25_449, m25_450, m25_453, m25_455, m25_457, m25_459, m25_461, m25_463, m25_466, m25_469, m25_470i, m25_472, m25_475, m25_478, m25_481, m25_483, m25_486, m25_489, m25_491, m25_494, m25_496i, m25_498, m25_501, m25_504, m25_506, m25_509, m25_511, m25_514, m25_515, m25_516, m25_518, m25_521, m25_523, m25_524, m25_527, m25_528, m25_531, m25_532, m25_535, m25_536, m25_537, m25_539, m25_542, m25_544, m25_547, m25_548, m25_549, m25_552, m25_555, m25_556, nb0, nb1, ou_a, Option.toList_some, Option.toList_none, List.nil_append, List.cons_append]
              exact opP (v := v) (k := k) (a := a) h hp hcu okS_u (okP_s (okS_i _) ok22) o23 hq zm ml
            · by_cases x2 : X < nI al
              · obtain ⟨u, hu⟩ : ∃ u, X = nI u ∧ u < al := by
                  rw [nn_i] at x1
                  rw [lt_i, nI_int (by omega)] at x2
                  exact ⟨X.toInt.toNat, Int32.toInt_inj.mp (by rw [nI_int (by omega)]; omega), by omega⟩
                rw [hu.1] at x1 x2 ⊢
                simp [x1, x2, m25_0, m25_1, m25_2, m25_5, m25_7, m25_10u, m25_11, m25_12, m25_13, m25_16, m25_18, m25_21u, m25_22, m25_23, m25_26u, m25_27, m25_30, m25_31, m25_32, m25_33, m25_36u, m25_38, m25_39, m25_41, m25_42, m25_44, m25_45, m25_47, m25_48, m25_50, m25_51u, m25_53, m25_54u, m25_56, m25_57, m25_57p, m25_58, m25_59, m25_62, m25_63, m25_66, m25_67, m25_67p, m25_68u, m25_70, m25_71u, m25_75, m25_77, m25_80, m25_82, m25_83, m25_86, m25_87, m25_89, m25_89p, m25_90u, m25_90i, m25_90r, m25_90g, m25_92, m25_94, m25_96, m25_97u, m25_97i, m25_97r, m25_97g, m25_99, m25_101, m25_102, m25_103u, m25_103i, m25_103r, m25_103g, m25_105, m25_107, m25_108, m25_111, m25_113, m25_115, m25_116, m25_117, m25_120, m25_121, m25_124, m25_126, m25_127, m25_130, m25_132, m25_133, m25_136, m25_138, m25_140, m25_143, m25_145, m25_146, m25_147u, m25_147i, m25_147r, m25_147g, m25_149, m25_151, m25_152, m25_155, m25_157, m25_159, m25_161, m25_162, m25_165u, m25_165i, m25_165r, m25_165g, m25_167, m25_169, m25_172, m25_174, m25_175, m25_178, m25_180i, m25_184, m25_186, m25_189, m25_192, m25_194, m25_195, m25_196, m25_198, m25_200, m25_201, m25_202, m25_203, m25_205, m25_207, m25_209, m25_212, m25_214, m25_216, m25_217, m25_219, m25_222, m25_224, m25_226, m25_229, m25_231, m25_233, m25_234, m25_236, m25_239, m25_241, m25_243, m25_246, m25_248, m25_250, m25_251, m25_253, m25_256, m25_258, m25_260, m25_261, m25_263, m25_266, m25_269, m25_271, m25_272, m25_275, m25_277, m25_280, m25_281, m25_283, m25_284, m25_286, m25_287, m25_289, m25_290, m25_292, m25_293i, m25_295, m25_297, m25_299, m25_302, m25_303, m25_304, m25_305i, m25_307, m25_310, m25_312, m25_314, m25_317, m25_319, m25_321, m25_322, m25_325, m25_327, m25_330, m25_331, m25_333, m25_334, m25_336, m25_337, m25_339, m25_340, m25_342, m25_343i, m25_345, m25_346i, m25_348, m25_351, m25_353, m25_355, m25_356, m25_357, m25_360, m25_361, m25_364, m25_366, m25_367, m25_368, m25_371, m25_373, m25_376, m25_378, m25_380, m25_381, m25_382, m25_383, m25_384, m25_387, m25_388, m25_390, m25_393u, m25_393i, m25_393r, m25_393g, m25_395, m25_397, m25_400u, m25_400i, m25_400r, m25_400g, m25_402, m25_404, m25_406, m25_409, m25_410, m25_411, m25_412u, m25_412i, m25_412r, m25_412g, m25_414, m25_415u, m25_415i, m25_415r, m25_415g, m25_417, m25_418u, m25_418i, m25_418r, m25_418g, m25_422, m25_424, m25_425, m25_427, m25_430, m25_431u, m25_431i, m25_431r, m25_431g, m25_433, m25_434u, m25_434i, m25_434r, m25_434g, m25_438, m25_440, m25_443, m25_445, m25_447, m25_449, m25_450, m25_453, m25_455, m25_457, m25_459, m25_461, m25_463, m25_466, m25_469, m25_470i, m25_472, m25_475, m25_478, m25_481, m25_483, m25_486, m25_489, m25_491, m25_494, m25_496i, m25_498, m25_501, m25_504, m25_506, m25_509, m25_511, m25_514, m25_515, m25_516, m25_518, m25_521, m25_523, m25_524, m25_527, m25_528, m25_531, m25_532, m25_535, m25_536, m25_537, m25_539, m25_542, m25_544, m25_547, m25_548, m25_549, m25_552, m25_555, m25_556, nb0, nb1, ou_a, Option.toList_some, Option.toList_none, List.nil_append, List.cons_append]
                exact opP (v := v) (k := k) (a := a) h hp hcu okS_u (okP_s (okS_n _) ok22) o23 hq zm hu.2
              · simp [x1, x2, m25_0, m25_1, m25_2, m25_5, m25_7, m25_10u, m25_11, m25_12, m25_13, m25_16, m25_18, m25_21u, m25_22, m25_23, m25_26u, m25_27, m25_30, m25_31, m25_32, m25_33, m25_36u, m25_38, m25_39, m25_41, m25_42, m25_44, m25_45, m25_47, m25_48, m25_50, m25_51u, m25_53, m25_54u, m25_56, m25_57, m25_57p, m25_58, m25_59, m25_62, m25_63, m25_66, m25_67, m25_67p, m25_68u, m25_70, m25_71u, m25_75, m25_77, m25_80, m25_82, m25_83, m25_86, m25_87, m25_89, m25_89p, m25_90u, m25_90i, m25_90r, m25_90g, m25_92, m25_94, m25_96, m25_97u, m25_97i, m25_97r, m25_97g, m25_99, m25_101, m25_102, m25_103u, m25_103i, m25_103r, m25_103g, m25_105, m25_107, m25_108, m25_111, m25_113, m25_115, m25_116, m25_117, m25_120, m25_121, m25_124, m25_126, m25_127, m25_130, m25_132, m25_133, m25_136, m25_138, m25_140, m25_143, m25_145, m25_146, m25_147u, m25_147i, m25_147r, m25_147g, m25_149, m25_151, m25_152, m25_155, m25_157, m25_159, m25_161, m25_162, m25_165u, m25_165i, m25_165r, m25_165g, m25_167, m25_169, m25_172, m25_174, m25_175, m25_178, m25_180i, m25_184, m25_186, m25_189, m25_192, m25_194, m25_195, m25_196, m25_198, m25_200, m25_201, m25_202, m25_203, m25_205, m25_207, m25_209, m25_212, m25_214, m25_216, m25_217, m25_219, m25_222, m25_224, m25_226, m25_229, m25_231, m25_233, m25_234, m25_236, m25_239, m25_241, m25_243, m25_246, m25_248, m25_250, m25_251, m25_253, m25_256, m25_258, m25_260, m25_261, m25_263, m25_266, m25_269, m25_271, m25_272, m25_275, m25_277, m25_280, m25_281, m25_283, m25_284, m25_286, m25_287, m25_289, m25_290, m25_292, m25_293i, m25_295, m25_297, m25_299, m25_302, m25_303, m25_304, m25_305i, m25_307, m25_310, m25_312, m25_314, m25_317, m25_319, m25_321, m25_322, m25_325, m25_327, m25_330, m25_331, m25_333, m25_334, m25_336, m25_337, m25_339, m25_340, m25_342, m25_343i, m25_345, m25_346i, m25_348, m25_351, m25_353, m25_355, m25_356, m25_357, m25_360, m25_361, m25_364, m25_366, m25_367, m25_368, m25_371, m25_373, m25_376, m25_378, m25_380, m25_381, m25_382, m25_383, m25_384, m25_387, m25_388, m25_390, m25_393u, m25_393i, m25_393r, m25_393g, m25_395, m25_397, m25_400u, m25_400i, m25_400r, m25_400g, m25_402, m25_404, m25_406, m25_409, m25_410, m25_411, m25_412u, m25_412i, m25_412r, m25_412g, m25_414, m25_415u, m25_415i, m25_415r, m25_415g, m25_417, m25_418u, m25_418i, m25_418r, m25_418g, m25_422, m25_424, m25_425, m25_427, m25_430, m25_431u, m25_431i, m25_431r, m25_431g, m25_433, m25_434u, m25_434i, m25_434r, m25_434g, m25_438, m25_440, m25_443, m25_445, m25_447, m25_449, m25_450, m25_453, m25_455, m25_457, m25_459, m25_461, m25_463, m25_466, m25_469, m25_470i, m25_472, m25_475, m25_478, m25_481, m25_483, m25_486, m25_489, m25_491, m25_494, m25_496i, m25_498, m25_501, m25_504, m25_506, m25_509, m25_511, m25_514, m25_515, m25_516, m25_518, m25_521, m25_523, m25_524, m25_527, m25_528, m25_531, m25_532, m25_535, m25_536, m25_537, m25_539, m25_542, m25_544, m25_547, m25_548, m25_549, m25_552, m25_555, m25_556, nb0, nb1, ou_a, Option.toList_some, Option.toList_none, List.nil_append, List.cons_append]
                exact opP (v := v) (k := k) (a := a) h hp hcu okS_u (okP_s (okS_i _) ok22) o23 hq zm ml
          simp [cm, nz, em, y1, o20, nI_add, m25_0, m25_1, m25_2, m25_5, m25_7, m25_10u, m25_11, m25_12, m25_13, m25_16, m25_18, m25_21u, m25_22, m25_23, m25_26u, m25_27, m25_30, m25_31, m25_32, m25_33, m25_36u, m25_38, m25_39, m25_41, m25_42, m25_44, m25_45, m25_47, m25_48, m25_50, m25_51u, m25_53, m25_54u, m25_56, m25_57, m25_57p, m25_58, m25_59, m25_62, m25_63, m25_66, m25_67, m25_67p, m25_68u, m25_70, m25_71u, m25_75, m25_77, m25_80, m25_82, m25_83, m25_86, m25_87, m25_89, m25_89p, m25_90u, m25_90i, m25_90r, m25_90g, m25_92, m25_94, m25_96, m25_97u, m25_97i, m25_97r, m25_97g, m25_99, m25_101, m25_102, m25_103u, m25_103i, m25_103r, m25_103g, m25_105, m25_107, m25_108, m25_111, m25_113, m25_115, m25_116, m25_117, m25_120, m25_121, m25_124, m25_126, m25_127, m25_130, m25_132, m25_133, m25_136, m25_138, m25_140, m25_143, m25_145, m25_146, m25_147u, m25_147i, m25_147r, m25_147g, m25_149, m25_151, m25_152, m25_155, m25_157, m25_159, m25_161, m25_162, m25_165g, m25_167, m25_169, m25_172, m25_174, m25_175, m25_178, m25_180i, m25_184, m25_186, m25_189, m25_192, m25_194, m25_195, m25_196, m25_198, m25_200, m25_201, m25_202, m25_203, m25_205, m25_207, m25_209, m25_212, m25_214, m25_216, m25_217, m25_219, m25_222, m25_224, m25_226, m25_229, m25_231, m25_233, m25_234, m25_236, m25_239, m25_241, m25_243, m25_246, m25_248, m25_250, m25_251, m25_253, m25_256, m25_258, m25_260, m25_261, m25_263, m25_266, m25_269, m25_271, m25_272, m25_275, m25_277, m25_280, m25_281, m25_283, m25_284, m25_286, m25_287, m25_289, m25_290, m25_292, m25_293i, m25_295, m25_297, m25_299, m25_302, m25_303, m25_304, m25_305i, m25_307, m25_310, m25_312, m25_314, m25_317, m25_319, m25_321, m25_322, m25_325, m25_327, m25_330, m25_331, m25_333, m25_334, m25_336, m25_337, m25_339, m25_340, m25_342, m25_343i, m25_345, m25_346i, m25_348, m25_351, m25_353, m25_355, m25_356, m25_357, m25_360, m25_361, m25_364, m25_366, m25_367, m25_368, m25_371, m25_373, m25_376, m25_378, m25_380, m25_381, m25_382, m25_383, m25_384, m25_387, m25_388, m25_390, m25_393u, m25_393i, m25_393r, m25_393g, m25_395, m25_397, m25_400u, m25_400i, m25_400r, m25_400g, m25_402, m25_404, m25_406, m25_409, m25_410, m25_411, m25_412u, m25_412i, m25_412r, m25_412g, m25_414, m25_415u, m25_415i, m25_415r, m25_415g, m25_417, m25_418u, m25_418i, m25_418r, m25_418g, m25_422, m25_424, m25_425, m25_427, m25_430, m25_431u, m25_431i, m25_431r, m25_431g, m25_433, m25_434u, m25_434i, m25_434r, m25_434g, m25_438, m25_440, m25_443, m25_445, m25_447, m25_449, m25_450, m25_453, m25_455, m25_457, m25_459, m25_461, m25_463, m25_466, m25_469, m25_470i, m25_472, m25_475, m25_478, m25_481, m25_483, m25_486, m25_489, m25_491, m25_494, m25_496i, m25_498, m25_501, m25_504, m25_506, m25_509, m25_511, m25_514, m25_515, m25_516, m25_518, m25_521, m25_523, m25_524, m25_527, m25_528, m25_531, m25_532, m25_535, m25_536, m25_537, m25_539, m25_542, m25_544, m25_547, m25_548, m25_549, m25_552, m25_555, m25_556, nb0, nb1, ou_a, Option.toList_some, Option.toList_none, List.nil_append, List.cons_append]
          refine syW h (by omega) (fun _ _ => ?_) (fun _ => ?_)
          · exact fin _ (fun _ _ _ => trivial) _ rfl
          · exact fin _ (fun _ _ _ => trivial) _ rfl
        · have y1 : (nI k = 4) = False := eF (c := 4) y (by omega) (by decide)
          simp [cm, nz, em, y1, o20, m25_0, m25_1, m25_2, m25_5, m25_7, m25_10u, m25_11, m25_12, m25_13, m25_16, m25_18, m25_21u, m25_22, m25_23, m25_26u, m25_27, m25_30, m25_31, m25_32, m25_33, m25_36u, m25_38, m25_39, m25_41, m25_42, m25_44, m25_45, m25_47, m25_48, m25_50, m25_51u, m25_53, m25_54u, m25_56, m25_57, m25_57p, m25_58, m25_59, m25_62, m25_63, m25_66, m25_67, m25_67p, m25_68u, m25_70, m25_71u, m25_75, m25_77, m25_80, m25_82, m25_83, m25_86, m25_87, m25_89, m25_89p, m25_90u, m25_90i, m25_90r, m25_90g, m25_92, m25_94, m25_96, m25_97u, m25_97i, m25_97r, m25_97g, m25_99, m25_101, m25_102, m25_103u, m25_103i, m25_103r, m25_103g, m25_105, m25_107, m25_108, m25_111, m25_113, m25_115, m25_116, m25_117, m25_120, m25_121, m25_124, m25_126, m25_127, m25_130, m25_132, m25_133, m25_136, m25_138, m25_140, m25_143, m25_145, m25_146, m25_147u, m25_147i, m25_147r, m25_147g, m25_149, m25_151, m25_152, m25_155, m25_157, m25_159, m25_161, m25_162, m25_165g, m25_167, m25_169, m25_172, m25_174, m25_175, m25_178, m25_180i, m25_184, m25_186, m25_189, m25_192, m25_194, m25_195, m25_196, m25_198, m25_200, m25_201, m25_202, m25_203, m25_205, m25_207, m25_209, m25_212, m25_214, m25_216, m25_217, m25_219, m25_222, m25_224, m25_226, m25_229, m25_231, m25_233, m25_234, m25_236, m25_239, m25_241, m25_243, m25_246, m25_248, m25_250, m25_251, m25_253, m25_256, m25_258, m25_260, m25_261, m25_263, m25_266, m25_269, m25_271, m25_272, m25_275, m25_277, m25_280, m25_281, m25_283, m25_284, m25_286, m25_287, m25_289, m25_290, m25_292, m25_293i, m25_295, m25_297, m25_299, m25_302, m25_303, m25_304, m25_305i, m25_307, m25_310, m25_312, m25_314, m25_317, m25_319, m25_321, m25_322, m25_325, m25_327, m25_330, m25_331, m25_333, m25_334, m25_336, m25_337, m25_339, m25_340, m25_342, m25_343i, m25_345, m25_346i, m25_348, m25_351, m25_353, m25_355, m25_356, m25_357, m25_360, m25_361, m25_364, m25_366, m25_367, m25_368, m25_371, m25_373, m25_376, m25_378, m25_380, m25_381, m25_382, m25_383, m25_384, m25_387, m25_388, m25_390, m25_393u, m25_393i, m25_393r, m25_393g, m25_395, m25_397, m25_400u, m25_400i, m25_400r, m25_400g, m25_402, m25_404, m25_406, m25_409, m25_410, m25_411, m25_412u, m25_412i, m25_412r, m25_412g, m25_414, m25_415u, m25_415i, m25_415r, m25_415g, m25_417, m25_418u, m25_418i, m25_418r, m25_418g, m25_422, m25_424, m25_425, m25_427, m25_430, m25_431u, m25_431i, m25_431r, m25_431g, m25_433, m25_434u, m25_434i, m25_434r, m25_434g, m25_438, m25_440, m25_443, m25_445, m25_447, m25_449, m25_450, m25_453, m25_455, m25_457, m25_459, m25_461, m25_463, m25_466, m25_469, m25_470i, m25_472, m25_475, m25_478, m25_481, m25_483, m25_486, m25_489, m25_491, m25_494, m25_496i, m25_498, m25_501, m25_504, m25_506, m25_509, m25_511, m25_514, m25_515, m25_516, m25_518, m25_521, m25_523, m25_524, m25_527, m25_528, m25_531, m25_532, m25_535, m25_536, m25_537, m25_539, m25_542, m25_544, m25_547, m25_548, m25_549, m25_552, m25_555, m25_556, nb0, nb1, ou_a, Option.toList_some, Option.toList_none, List.nil_append, List.cons_append]
          exact opP (v := v) (k := k) (a := a) h hp hcu okS_u o21 o23 hq zm ml
      · have cm : (nI m < 64) = False := lF (c := 64) (by omega) (by omega)
        simp [cm, m25_0, m25_1, m25_2, m25_5, m25_7, m25_10u, m25_11, m25_12, m25_13, m25_16, m25_18, m25_21u, m25_22, m25_23, m25_26u, m25_27, m25_30, m25_31, m25_32, m25_33, m25_36u, m25_38, m25_39, m25_41, m25_42, m25_44, m25_45, m25_47, m25_48, m25_50, m25_51u, m25_53, m25_54u, m25_56, m25_57, m25_57p, m25_58, m25_59, m25_62, m25_63, m25_66, m25_67, m25_67p, m25_68u, m25_70, m25_71u, m25_75, m25_77, m25_80, m25_82, m25_83, m25_86, m25_87, m25_89, m25_89p, m25_90u, m25_90i, m25_90r, m25_90g, m25_92, m25_94, m25_96, m25_97u, m25_97i, m25_97r, m25_97g, m25_99, m25_101, m25_102, m25_103u, m25_103i, m25_103r, m25_103g, m25_105, m25_107, m25_108, m25_111, m25_113, m25_115, m25_116, m25_117, m25_120, m25_121, m25_124, m25_126, m25_127, m25_130, m25_132, m25_133, m25_136, m25_138, m25_140, m25_143, m25_145, m25_146, m25_147u, m25_147i, m25_147r, m25_147g, m25_149, m25_151, m25_152, m25_155, m25_157, m25_159, m25_161, m25_162, m25_165u, m25_165i, m25_165r, m25_165g, m25_167, m25_169, m25_172, m25_174, m25_175, m25_178, m25_180i, m25_182, m25_184, m25_186, m25_189, m25_192, m25_194, m25_195, m25_196, m25_198, m25_200, m25_201, m25_202, m25_203, m25_205, m25_207, m25_209, m25_212, m25_214, m25_216, m25_217, m25_219, m25_222, m25_224, m25_226, m25_229, m25_231, m25_233, m25_234, m25_236, m25_239, m25_241, m25_243, m25_246, m25_248, m25_250, m25_251, m25_253, m25_256, m25_258, m25_260, m25_261, m25_263, m25_266, m25_269, m25_271, m25_272, m25_275, m25_277, m25_280, m25_281, m25_283, m25_284, m25_286, m25_287, m25_289, m25_290, m25_292, m25_293i, m25_295, m25_297, m25_299, m25_302, m25_303, m25_304, m25_305i, m25_307, m25_310, m25_312, m25_314, m25_317, m25_319, m25_321, m25_322, m25_325, m25_327, m25_330, m25_331, m25_333, m25_334, m25_336, m25_337, m25_339, m25_340, m25_342, m25_343i, m25_345, m25_346i, m25_348, m25_351, m25_353, m25_355, m25_356, m25_357, m25_360, m25_361, m25_364, m25_366, m25_367, m25_368, m25_371, m25_373, m25_376, m25_378, m25_380, m25_381, m25_382, m25_383, m25_384, m25_387, m25_390, m25_393u, m25_393i, m25_393r, m25_393g, m25_395, m25_397, m25_400u, m25_400i, m25_400r, m25_400g, m25_402, m25_404, m25_406, m25_409, m25_410, m25_411, m25_412u, m25_412i, m25_412r, m25_412g, m25_414, m25_415u, m25_415i, m25_415r, m25_415g, m25_417, m25_418u, m25_418i, m25_418r, m25_418g, m25_422, m25_424, m25_425, m25_427, m25_430, m25_431u, m25_431i, m25_431r, m25_431g, m25_433, m25_434u, m25_434i, m25_434r, m25_434g, m25_438, m25_440, m25_443, m25_445, m25_447, m25_449, m25_450, m25_453, m25_455, m25_457, m25_459, m25_461, m25_463, m25_466, m25_469, m25_470i, m25_472, m25_475, m25_478, m25_481, m25_483, m25_486, m25_489, m25_491, m25_494, m25_496i, m25_498, m25_501, m25_504, m25_506, m25_509, m25_511, m25_514, m25_515, m25_516, m25_518, m25_521, m25_523, m25_524, m25_527, m25_528, m25_531, m25_532, m25_535, m25_536, m25_537, m25_539, m25_542, m25_544, m25_547, m25_548, m25_549, m25_552, m25_555, m25_556, nb0, nb1, ou_a, Option.toList_some, Option.toList_none, List.nil_append, List.cons_append]
        exact hq n m w p x0 x1 x2 x3 cu _ _ _ _ _ _ _ s A h hp hcu (okS_i _) (okS_n _) (okS_n _) o20 o21 o23
    by_cases y3 : k = 3
    · have y1 : (nI k = 3) = True := eT (c := 3) y3
      have b := base (Or.inl y1)
      simp [c2, y1, m25_0, m25_1, m25_2, m25_5, m25_7, m25_10u, m25_11, m25_12, m25_13, m25_16, m25_18, m25_21u, m25_22, m25_23, m25_26u, m25_27, m25_30, m25_31, m25_32, m25_33, m25_36u, m25_38, m25_39, m25_41, m25_42, m25_44, m25_45, m25_47, m25_48, m25_50, m25_51u, m25_53, m25_54u, m25_56, m25_57, m25_57p, m25_58, m25_59, m25_62, m25_63, m25_66, m25_67, m25_67p, m25_68u, m25_70, m25_71u, m25_75, m25_77, m25_80, m25_82, m25_83, m25_86, m25_87, m25_89, m25_89p, m25_90u, m25_90i, m25_90r, m25_90g, m25_92, m25_94, m25_96, m25_97u, m25_97i, m25_97r, m25_97g, m25_99, m25_101, m25_102, m25_103u, m25_103i, m25_103r, m25_103g, m25_105, m25_107, m25_108, m25_111, m25_113, m25_115, m25_116, m25_117, m25_120, m25_121, m25_124, m25_126, m25_127, m25_130, m25_132, m25_133, m25_138, m25_140, m25_143, m25_145, m25_146, m25_147u, m25_147i, m25_147r, m25_147g, m25_149, m25_151, m25_152, m25_155, m25_157, m25_159, m25_161, m25_162, m25_165u, m25_165i, m25_165r, m25_165g, m25_167, m25_169, m25_172, m25_174, m25_175, m25_178, m25_180i, m25_182, m25_184, m25_186, m25_189, m25_192, m25_194, m25_195, m25_196, m25_198, m25_200, m25_201, m25_202, m25_203, m25_205, m25_207, m25_209, m25_212, m25_214, m25_216, m25_217, m25_219, m25_222, m25_224, m25_226, m25_229, m25_231, m25_233, m25_234, m25_236, m25_239, m25_241, m25_243, m25_246, m25_248, m25_250, m25_251, m25_253, m25_256, m25_258, m25_260, m25_261, m25_263, m25_266, m25_269, m25_271, m25_272, m25_275, m25_277, m25_280, m25_281, m25_283, m25_284, m25_286, m25_287, m25_289, m25_290, m25_292, m25_293i, m25_295, m25_297, m25_299, m25_302, m25_303, m25_304, m25_305i, m25_307, m25_310, m25_312, m25_314, m25_317, m25_319, m25_321, m25_322, m25_325, m25_327, m25_330, m25_331, m25_333, m25_334, m25_336, m25_337, m25_339, m25_340, m25_342, m25_343i, m25_345, m25_346i, m25_348, m25_351, m25_353, m25_355, m25_356, m25_357, m25_360, m25_361, m25_364, m25_366, m25_367, m25_368, m25_371, m25_373, m25_376, m25_378, m25_380, m25_381, m25_382, m25_383, m25_384, m25_387, m25_388, m25_390, m25_393u, m25_393i, m25_393r, m25_393g, m25_395, m25_397, m25_400u, m25_400i, m25_400r, m25_400g, m25_402, m25_404, m25_406, m25_409, m25_410, m25_411, m25_412u, m25_412i, m25_412r, m25_412g, m25_414, m25_415u, m25_415i, m25_415r, m25_415g, m25_417, m25_418u, m25_418i, m25_418r, m25_418g, m25_422, m25_424, m25_425, m25_427, m25_430, m25_431u, m25_431i, m25_431r, m25_431g, m25_433, m25_434u, m25_434i, m25_434r, m25_434g, m25_438, m25_440, m25_443, m25_445, m25_447, m25_449, m25_450, m25_453, m25_455, m25_457, m25_459, m25_461, m25_463, m25_466, m25_469, m25_470i, m25_472, m25_475, m25_478, m25_481, m25_483, m25_486, m25_489, m25_491, m25_494, m25_496i, m25_498, m25_501, m25_504, m25_506, m25_509, m25_511, m25_514, m25_515, m25_516, m25_518, m25_521, m25_523, m25_524, m25_527, m25_528, m25_531, m25_532, m25_535, m25_536, m25_537, m25_539, m25_542, m25_544, m25_547, m25_548, m25_549, m25_552, m25_555, m25_556, nb0, nb1, ou_a, Option.toList_some, Option.toList_none, List.nil_append, List.cons_append]
      exact b
    · have y1 : (nI k = 3) = False := eF (c := 3) y3 (by omega) (by decide)
      have y4 : (nI k = 4) = True := eT (c := 4) (by omega)
      have b := base (Or.inr ⟨y1, y4⟩)
      simp [c2, y1, y4, m25_0, m25_1, m25_2, m25_5, m25_7, m25_10u, m25_11, m25_12, m25_13, m25_16, m25_18, m25_21u, m25_22, m25_23, m25_26u, m25_27, m25_30, m25_31, m25_32, m25_33, m25_36u, m25_38, m25_39, m25_41, m25_42, m25_44, m25_45, m25_47, m25_48, m25_50, m25_51u, m25_53, m25_54u, m25_56, m25_57, m25_57p, m25_58, m25_59, m25_62, m25_63, m25_66, m25_67, m25_67p, m25_68u, m25_70, m25_71u, m25_75, m25_77, m25_80, m25_82, m25_83, m25_86, m25_87, m25_89, m25_89p, m25_90u, m25_90i, m25_90r, m25_90g, m25_92, m25_94, m25_96, m25_97u, m25_97i, m25_97r, m25_97g, m25_99, m25_101, m25_102, m25_103u, m25_103i, m25_103r, m25_103g, m25_105, m25_107, m25_108, m25_111, m25_113, m25_115, m25_116, m25_117, m25_120, m25_121, m25_124, m25_126, m25_127, m25_130, m25_132, m25_133, m25_138, m25_140, m25_143, m25_145, m25_146, m25_147u, m25_147i, m25_147r, m25_147g, m25_149, m25_151, m25_152, m25_155, m25_157, m25_159, m25_161, m25_162, m25_165u, m25_165i, m25_165r, m25_165g, m25_167, m25_169, m25_172, m25_174, m25_175, m25_178, m25_180i, m25_182, m25_184, m25_186, m25_189, m25_192, m25_194, m25_195, m25_196, m25_198, m25_200, m25_201, m25_202, m25_203, m25_205, m25_207, m25_209, m25_212, m25_214, m25_216, m25_217, m25_219, m25_222, m25_224, m25_226, m25_229, m25_231, m25_233, m25_234, m25_236, m25_239, m25_241, m25_243, m25_246, m25_248, m25_250, m25_251, m25_253, m25_256, m25_258, m25_260, m25_261, m25_263, m25_266, m25_269, m25_271, m25_272, m25_275, m25_277, m25_280, m25_281, m25_283, m25_284, m25_286, m25_287, m25_289, m25_290, m25_292, m25_293i, m25_295, m25_297, m25_299, m25_302, m25_303, m25_304, m25_305i, m25_307, m25_310, m25_312, m25_314, m25_317, m25_319, m25_321, m25_322, m25_325, m25_327, m25_330, m25_331, m25_333, m25_334, m25_336, m25_337, m25_339, m25_340, m25_342, m25_343i, m25_345, m25_346i, m25_348, m25_351, m25_353, m25_355, m25_356, m25_357, m25_360, m25_361, m25_364, m25_366, m25_367, m25_368, m25_371, m25_373, m25_376, m25_378, m25_380, m25_381, m25_382, m25_383, m25_384, m25_387, m25_388, m25_390, m25_393u, m25_393i, m25_393r, m25_393g, m25_395, m25_397, m25_400u, m25_400i, m25_400r, m25_400g, m25_402, m25_404, m25_406, m25_409, m25_410, m25_411, m25_412u, m25_412i, m25_412r, m25_412g, m25_414, m25_415u, m25_415i, m25_415r, m25_415g, m25_417, m25_418u, m25_418i, m25_418r, m25_418g, m25_422, m25_424, m25_425, m25_427, m25_430, m25_431u, m25_431i, m25_431r, m25_431g, m25_433, m25_434u, m25_434i, m25_434r, m25_434g, m25_438, m25_440, m25_443, m25_445, m25_447, m25_449, m25_450, m25_453, m25_455, m25_457, m25_459, m25_461, m25_463, m25_466, m25_469, m25_470i, m25_472, m25_475, m25_478, m25_481, m25_483, m25_486, m25_489, m25_491, m25_494, m25_496i, m25_498, m25_501, m25_504, m25_506, m25_509, m25_511, m25_514, m25_515, m25_516, m25_518, m25_521, m25_523, m25_524, m25_527, m25_528, m25_531, m25_532, m25_535, m25_536, m25_537, m25_539, m25_542, m25_544, m25_547, m25_548, m25_549, m25_552, m25_555, m25_556, nb0, nb1, ou_a, Option.toList_some, Option.toList_none, List.nil_append, List.cons_append]
      exact b
  have y3 : (nI k = 3) = False := eF (c := 3) (by omega) (by omega) (by decide)
  have y4 : (nI k = 4) = False := eF (c := 4) (by omega) (by omega) (by decide)
  by_cases z5 : k = 5
  · have y5 : (nI k = 5) = True := eT (c := 5) z5
    have n1 : (nI (n + 1) = 0) = False := n0T (by omega) (by omega)
    have en : nI a % nI (n + 1) = nI (a % (n + 1)) := nI_mod ha (by omega)
    have ln : a % (n + 1) < n + 1 := Nat.mod_lt _ (by omega)
    simp [c2, y3, y4, y5, m18_0, m18_1, m18_2, m18_5, nb0, nb1, ou_a, Option.toList_some, Option.toList_none, List.nil_append, List.cons_append, m3_0, m3_1, m3_4, nb0, nb1, ou_a, Option.toList_some, Option.toList_none, List.nil_append, List.cons_append, os_ne, s2, n1, en, nI_1, m25_0, m25_1, m25_2, m25_5, m25_7, m25_10u, m25_11, m25_12, m25_13, m25_16, m25_18, m25_21u, m25_22, m25_23, m25_26u, m25_27, m25_30, m25_31, m25_32, m25_33, m25_36u, m25_38, m25_39, m25_41, m25_42, m25_44, m25_45, m25_47, m25_48, m25_50, m25_51u, m25_53, m25_54u, m25_56, m25_57, m25_57p, m25_58, m25_59, m25_62, m25_63, m25_66, m25_67, m25_67p, m25_68u, m25_70, m25_71u, m25_75, m25_77, m25_80, m25_82, m25_83, m25_86, m25_87, m25_89, m25_89p, m25_90u, m25_90i, m25_90r, m25_90g, m25_92, m25_94, m25_96, m25_97u, m25_97i, m25_97r, m25_97g, m25_99, m25_101, m25_102, m25_103u, m25_103i, m25_103r, m25_103g, m25_105, m25_107, m25_108, m25_111, m25_113, m25_115, m25_116, m25_117, m25_120, m25_121, m25_124, m25_126, m25_127, m25_130, m25_132, m25_133, m25_136, m25_138, m25_140, m25_143, m25_145, m25_146, m25_147u, m25_147i, m25_147r, m25_147g, m25_149, m25_151, m25_152, m25_155, m25_157, m25_159, m25_161, m25_162, m25_165u, m25_165i, m25_165r, m25_165g, m25_167, m25_169, m25_172, m25_174, m25_175, m25_178, m25_180i, m25_182, m25_184, m25_186, m25_189, m25_192, m25_194, m25_195, m25_196, m25_198, m25_200, m25_201, m25_202, m25_203, m25_205, m25_207, m25_209, m25_212, m25_214, m25_216, m25_217, m25_219, m25_222, m25_224, m25_226, m25_229, m25_231, m25_233, m25_234, m25_236, m25_239, m25_241, m25_243, m25_246, m25_248, m25_250, m25_251, m25_253, m25_256, m25_258, m25_260, m25_261, m25_263, m25_266, m25_269, m25_271, m25_272, m25_275, m25_277, m25_280, m25_281, m25_283, m25_284, m25_286, m25_287, m25_289, m25_290, m25_292, m25_293i, m25_295, m25_297, m25_299, m25_302, m25_303, m25_304, m25_305i, m25_307, m25_310, m25_312, m25_314, m25_317, m25_319, m25_321, m25_322, m25_325, m25_327, m25_330, m25_331, m25_333, m25_334, m25_336, m25_337, m25_339, m25_340, m25_342, m25_343i, m25_345, m25_346i, m25_348, m25_351, m25_353, m25_355, m25_356, m25_357, m25_360, m25_361, m25_364, m25_366, m25_367, m25_368, m25_371, m25_373, m25_376, m25_378, m25_380, m25_381, m25_382, m25_383, m25_384, m25_387, m25_390, m25_393u, m25_393i, m25_393r, m25_393g, m25_395, m25_397, m25_400u, m25_400i, m25_400r, m25_400g, m25_402, m25_404, m25_406, m25_409, m25_410, m25_411, m25_412u, m25_412i, m25_412r, m25_412g, m25_414, m25_415u, m25_415i, m25_415r, m25_415g, m25_417, m25_418u, m25_418i, m25_418r, m25_418g, m25_422, m25_424, m25_425, m25_427, m25_430, m25_431u, m25_431i, m25_431r, m25_431g, m25_433, m25_434u, m25_434i, m25_434r, m25_434g, m25_438, m25_440, m25_443, m25_445, m25_447, m25_449, m25_450, m25_453, m25_455, m25_457, m25_459, m25_461, m25_463, m25_466, m25_469, m25_470i, m25_472, m25_475, m25_478, m25_481, m25_483, m25_486, m25_489, m25_491, m25_494, m25_496i, m25_498, m25_501, m25_504, m25_506, m25_509, m25_511, m25_514, m25_515, m25_516, m25_518, m25_521, m25_523, m25_524, m25_527, m25_528, m25_531, m25_532, m25_535, m25_536, m25_537, m25_539, m25_542, m25_544, m25_547, m25_548, m25_549, m25_552, m25_555, m25_556, nb0, nb1, ou_a, Option.toList_some, Option.toList_none, List.nil_append, List.cons_append]
    exact hq n 0 w p 0 0 0 0 (a % (n + 1)) _ _ _ _ _ _ _ _ A (clP h) (PQ_0 _) (by omega) (okS_i _) (okS_n _) (okS_n _) o20 o21 o23
  have y5 : (nI k = 5) = False := eF (c := 5) z5 (by omega) (by decide)
  by_cases z6 : k = 6
  · have y6 : (nI k = 6) = True := eT (c := 6) z6
    have e8 : nI a % 8 = nI (a % 8) := nI_mod (c := 8) ha (by decide)
    by_cases x : a % 8 = 0
    · have xx1 : (nI (a % 8) = 0) = True := eT (c := 0) x
      simp [c2, y3, y4, y5, y6, e8, xx1, m25_0, m25_1, m25_2, m25_5, m25_7, m25_10u, m25_11, m25_12, m25_13, m25_16, m25_18, m25_21u, m25_22, m25_23, m25_26u, m25_27, m25_30, m25_31, m25_32, m25_33, m25_36u, m25_38, m25_39, m25_41, m25_42, m25_44, m25_45, m25_47, m25_48, m25_50, m25_51u, m25_53, m25_54u, m25_56, m25_57, m25_57p, m25_58, m25_59, m25_62, m25_63, m25_66, m25_67, m25_67p, m25_68u, m25_70, m25_71u, m25_75, m25_77, m25_80, m25_82, m25_83, m25_86, m25_87, m25_89, m25_89p, m25_90u, m25_90i, m25_90r, m25_90g, m25_92, m25_94, m25_96, m25_97u, m25_97i, m25_97r, m25_97g, m25_99, m25_101, m25_102, m25_103u, m25_103i, m25_103r, m25_103g, m25_105, m25_107, m25_108, m25_111, m25_113, m25_115, m25_116, m25_117, m25_120, m25_121, m25_124, m25_126, m25_127, m25_130, m25_132, m25_133, m25_136, m25_138, m25_140, m25_143, m25_145, m25_146, m25_147u, m25_147i, m25_147r, m25_147g, m25_149, m25_151, m25_152, m25_155, m25_157, m25_159, m25_161, m25_162, m25_165u, m25_165i, m25_165r, m25_165g, m25_167, m25_169, m25_172, m25_174, m25_175, m25_178, m25_180i, m25_182, m25_184, m25_186, m25_189, m25_192, m25_194, m25_195, m25_196, m25_198, m25_200, m25_201, m25_202, m25_203, m25_205, m25_207, m25_209, m25_212, m25_214, m25_216, m25_217, m25_219, m25_222, m25_224, m25_226, m25_229, m25_231, m25_233, m25_234, m25_236, m25_239, m25_241, m25_243, m25_246, m25_248, m25_250, m25_251, m25_253, m25_256, m25_258, m25_260, m25_261, m25_263, m25_266, m25_269, m25_271, m25_272, m25_275, m25_277, m25_280, m25_281, m25_283, m25_284, m25_286, m25_287, m25_289, m25_290, m25_292, m25_293i, m25_295, m25_297, m25_299, m25_302, m25_303, m25_304, m25_305i, m25_307, m25_310, m25_312, m25_314, m25_317, m25_319, m25_321, m25_322, m25_325, m25_327, m25_330, m25_331, m25_333, m25_334, m25_336, m25_337, m25_339, m25_340, m25_342, m25_343i, m25_345, m25_346i, m25_348, m25_351, m25_353, m25_355, m25_356, m25_357, m25_360, m25_361, m25_364, m25_366, m25_367, m25_368, m25_371, m25_373, m25_376, m25_378, m25_380, m25_381, m25_382, m25_383, m25_384, m25_387, m25_390, m25_393u, m25_393i, m25_393r, m25_393g, m25_395, m25_397, m25_400u, m25_400i, m25_400r, m25_400g, m25_402, m25_404, m25_406, m25_409, m25_410, m25_411, m25_412u, m25_412i, m25_412r, m25_412g, m25_414, m25_415u, m25_415i, m25_415r, m25_415g, m25_417, m25_418u, m25_418i, m25_418r, m25_418g, m25_422, m25_424, m25_425, m25_427, m25_430, m25_431u, m25_431i, m25_431r, m25_431g, m25_433, m25_434u, m25_434i, m25_434r, m25_434g, m25_438, m25_440, m25_443, m25_445, m25_447, m25_449, m25_450, m25_453, m25_455, m25_457, m25_459, m25_461, m25_463, m25_466, m25_469, m25_470i, m25_472, m25_475, m25_478, m25_481, m25_483, m25_486, m25_489, m25_491, m25_494, m25_496i, m25_498, m25_501, m25_504, m25_506, m25_509, m25_511, m25_514, m25_515, m25_516, m25_518, m25_521, m25_523, m25_524, m25_527, m25_528, m25_531, m25_532, m25_535, m25_536, m25_537, m25_539, m25_542, m25_544, m25_547, m25_548, m25_549, m25_552, m25_555, m25_556, nb0, nb1, ou_a, Option.toList_some, Option.toList_none, List.nil_append, List.cons_append]
      refine reW (b := 0) h (fun s1 A1 h' => ?_)
      simp [m25_0, m25_1, m25_2, m25_5, m25_7, m25_10u, m25_11, m25_12, m25_13, m25_16, m25_18, m25_21u, m25_22, m25_23, m25_26u, m25_27, m25_30, m25_31, m25_32, m25_33, m25_36u, m25_38, m25_39, m25_41, m25_42, m25_44, m25_45, m25_47, m25_48, m25_50, m25_51u, m25_53, m25_54u, m25_56, m25_57, m25_57p, m25_58, m25_59, m25_62, m25_63, m25_66, m25_67, m25_67p, m25_68u, m25_70, m25_71u, m25_75, m25_77, m25_80, m25_82, m25_83, m25_86, m25_87, m25_89, m25_89p, m25_90u, m25_90i, m25_90r, m25_90g, m25_92, m25_94, m25_96, m25_97u, m25_97i, m25_97r, m25_97g, m25_99, m25_101, m25_102, m25_103u, m25_103i, m25_103r, m25_103g, m25_105, m25_107, m25_108, m25_111, m25_113, m25_115, m25_116, m25_117, m25_120, m25_121, m25_124, m25_126, m25_127, m25_130, m25_132, m25_133, m25_136, m25_138, m25_140, m25_143, m25_145, m25_146, m25_147u, m25_147i, m25_147r, m25_147g, m25_149, m25_151, m25_152, m25_155, m25_157, m25_159, m25_161, m25_162, m25_165u, m25_165i, m25_165r, m25_165g, m25_167, m25_169, m25_172, m25_174, m25_175, m25_178, m25_180i, m25_182, m25_184, m25_186, m25_189, m25_192, m25_194, m25_195, m25_196, m25_198, m25_200, m25_201, m25_202, m25_203, m25_205, m25_207, m25_209, m25_212, m25_214, m25_216, m25_217, m25_219, m25_222, m25_224, m25_226, m25_229, m25_231, m25_233, m25_234, m25_236, m25_239, m25_241, m25_243, m25_246, m25_248, m25_250, m25_251, m25_253, m25_256, m25_258, m25_260, m25_261, m25_263, m25_266, m25_269, m25_271, m25_272, m25_275, m25_277, m25_280, m25_281, m25_283, m25_284, m25_286, m25_287, m25_289, m25_290, m25_292, m25_293i, m25_295, m25_297, m25_299, m25_302, m25_303, m25_304, m25_305i, m25_307, m25_310, m25_312, m25_314, m25_317, m25_319, m25_321, m25_322, m25_325, m25_327, m25_330, m25_331, m25_333, m25_334, m25_336, m25_337, m25_339, m25_340, m25_342, m25_343i, m25_345, m25_346i, m25_348, m25_351, m25_353, m25_355, m25_356, m25_357, m25_360, m25_361, m25_364, m25_366, m25_367, m25_368, m25_371, m25_373, m25_376, m25_378, m25_380, m25_381, m25_382, m25_383, m25_384, m25_387, m25_390, m25_393u, m25_393i, m25_393r, m25_393g, m25_395, m25_397, m25_400u, m25_400i, m25_400r, m25_400g, m25_402, m25_404, m25_406, m25_409, m25_410, m25_411, m25_412u, m25_412i, m25_412r, m25_412g, m25_414, m25_415u, m25_415i, m25_415r, m25_415g, m25_417, m25_418u, m25_418i, m25_418r, m25_418g, m25_422, m25_424, m25_425, m25_427, m25_430, m25_431u, m25_431i, m25_431r, m25_431g, m25_433, m25_434u, m25_434i, m25_434r, m25_434g, m25_438, m25_440, m25_443, m25_445, m25_447, m25_449, m25_450, m25_453, m25_455, m25_457, m25_459, m25_461, m25_463, m25_466, m25_469, m25_470i, m25_472, m25_475, m25_478, m25_481, m25_483, m25_486, m25_489, m25_491, m25_494, m25_496i, m25_498, m25_501, m25_504, m25_506, m25_509, m25_511, m25_514, m25_515, m25_516, m25_518, m25_521, m25_523, m25_524, m25_527, m25_528, m25_531, m25_532, m25_535, m25_536, m25_537, m25_539, m25_542, m25_544, m25_547, m25_548, m25_549, m25_552, m25_555, m25_556, nb0, nb1, ou_a, Option.toList_some, Option.toList_none, List.nil_append, List.cons_append]
      exact hq 0 0 _ _ 0 0 0 0 0 _ _ _ _ _ _ _ s1 A1 h' (PQ_0 _) (by omega) (okS_i _) (okS_n _) (okS_n _) o20 o21 o23
    · have xx1 : (nI (a % 8) = 0) = False := eF (c := 0) x (by omega) (by decide)
      simp [c2, y3, y4, y5, y6, e8, xx1, nz, em, m25_0, m25_1, m25_2, m25_5, m25_7, m25_10u, m25_11, m25_12, m25_13, m25_16, m25_18, m25_21u, m25_22, m25_23, m25_26u, m25_27, m25_30, m25_31, m25_32, m25_33, m25_36u, m25_38, m25_39, m25_41, m25_42, m25_44, m25_45, m25_47, m25_48, m25_50, m25_51u, m25_53, m25_54u, m25_56, m25_57, m25_57p, m25_58, m25_59, m25_62, m25_63, m25_66, m25_67, m25_67p, m25_68u, m25_70, m25_71u, m25_75, m25_77, m25_80, m25_82, m25_83, m25_86, m25_87, m25_89, m25_89p, m25_90u, m25_90i, m25_90r, m25_90g, m25_92, m25_94, m25_96, m25_97u, m25_97i, m25_97r, m25_97g, m25_99, m25_101, m25_102, m25_103u, m25_103i, m25_103r, m25_103g, m25_105, m25_107, m25_108, m25_111, m25_113, m25_115, m25_116, m25_117, m25_120, m25_121, m25_124, m25_126, m25_127, m25_130, m25_132, m25_133, m25_136, m25_138, m25_140, m25_143, m25_145, m25_146, m25_147u, m25_147i, m25_147r, m25_147g, m25_149, m25_151, m25_152, m25_155, m25_157, m25_159, m25_161, m25_162, m25_165u, m25_165i, m25_165r, m25_165g, m25_167, m25_169, m25_172, m25_174, m25_175, m25_178, m25_180i, m25_182, m25_184, m25_186, m25_189, m25_192, m25_194, m25_195, m25_196, m25_198, m25_200, m25_201, m25_202, m25_203, m25_205, m25_207, m25_209, m25_212, m25_214, m25_216, m25_217, m25_219, m25_222, m25_224, m25_226, m25_229, m25_231, m25_233, m25_234, m25_236, m25_239, m25_241, m25_243, m25_246, m25_248, m25_250, m25_251, m25_253, m25_256, m25_258, m25_260, m25_261, m25_263, m25_266, m25_269, m25_271, m25_272, m25_275, m25_277, m25_280, m25_281, m25_283, m25_284, m25_286, m25_287, m25_289, m25_290, m25_292, m25_293i, m25_295, m25_297, m25_299, m25_302, m25_303, m25_304, m25_305i, m25_307, m25_310, m25_312, m25_314, m25_317, m25_319, m25_321, m25_322, m25_325, m25_327, m25_330, m25_331, m25_333, m25_334, m25_336, m25_337, m25_339, m25_340, m25_342, m25_343i, m25_345, m25_346i, m25_348, m25_351, m25_353, m25_355, m25_356, m25_357, m25_360, m25_361, m25_364, m25_366, m25_367, m25_368, m25_371, m25_373, m25_376, m25_378, m25_380, m25_381, m25_382, m25_383, m25_384, m25_387, m25_390, m25_393u, m25_393i, m25_393r, m25_393g, m25_395, m25_397, m25_400u, m25_400i, m25_400r, m25_400g, m25_402, m25_404, m25_406, m25_409, m25_410, m25_411, m25_412u, m25_412i, m25_412r, m25_412g, m25_414, m25_415u, m25_415i, m25_415r, m25_415g, m25_417, m25_418u, m25_418i, m25_418r, m25_418g, m25_422, m25_424, m25_425, m25_427, m25_430, m25_431u, m25_431i, m25_431r, m25_431g, m25_433, m25_434u, m25_434i, m25_434r, m25_434g, m25_438, m25_440, m25_443, m25_445, m25_447, m25_449, m25_450, m25_453, m25_455, m25_457, m25_459, m25_461, m25_463, m25_466, m25_469, m25_470i, m25_472, m25_475, m25_478, m25_481, m25_483, m25_486, m25_489, m25_491, m25_494, m25_496i, m25_498, m25_501, m25_504, m25_506, m25_509, m25_511, m25_514, m25_515, m25_516, m25_518, m25_521, m25_523, m25_524, m25_527, m25_528, m25_531, m25_532, m25_535, m25_536, m25_537, m25_539, m25_542, m25_544, m25_547, m25_548, m25_549, m25_552, m25_555, m25_556, nb0, nb1, ou_a, Option.toList_some, Option.toList_none, List.nil_append, List.cons_append]
      refine apW (b := 0) h ml (fun x n' w' s1 A1 h' _ => ?_)
      simp [m25_0, m25_1, m25_2, m25_5, m25_7, m25_10u, m25_11, m25_12, m25_13, m25_16, m25_18, m25_21u, m25_22, m25_23, m25_26u, m25_27, m25_30, m25_31, m25_32, m25_33, m25_36u, m25_38, m25_39, m25_41, m25_42, m25_44, m25_45, m25_47, m25_48, m25_50, m25_51u, m25_53, m25_54u, m25_56, m25_57, m25_57p, m25_58, m25_59, m25_62, m25_63, m25_66, m25_67, m25_67p, m25_68u, m25_70, m25_71u, m25_75, m25_77, m25_80, m25_82, m25_83, m25_86, m25_87, m25_89, m25_89p, m25_90u, m25_90i, m25_90r, m25_90g, m25_92, m25_94, m25_96, m25_97u, m25_97i, m25_97r, m25_97g, m25_99, m25_101, m25_102, m25_103u, m25_103i, m25_103r, m25_103g, m25_105, m25_107, m25_108, m25_111, m25_113, m25_115, m25_116, m25_117, m25_120, m25_121, m25_124, m25_126, m25_127, m25_130, m25_132, m25_133, m25_136, m25_138, m25_140, m25_143, m25_145, m25_146, m25_147u, m25_147i, m25_147r, m25_147g, m25_149, m25_151, m25_152, m25_155, m25_157, m25_159, m25_161, m25_162, m25_165u, m25_165i, m25_165r, m25_165g, m25_167, m25_169, m25_172, m25_174, m25_175, m25_178, m25_180i, m25_182, m25_184, m25_186, m25_189, m25_192, m25_194, m25_195, m25_196, m25_198, m25_200, m25_201, m25_202, m25_203, m25_205, m25_207, m25_209, m25_212, m25_214, m25_216, m25_217, m25_219, m25_222, m25_224, m25_226, m25_229, m25_231, m25_233, m25_234, m25_236, m25_239, m25_241, m25_243, m25_246, m25_248, m25_250, m25_251, m25_253, m25_256, m25_258, m25_260, m25_261, m25_263, m25_266, m25_269, m25_271, m25_272, m25_275, m25_277, m25_280, m25_281, m25_283, m25_284, m25_286, m25_287, m25_289, m25_290, m25_292, m25_293i, m25_295, m25_297, m25_299, m25_302, m25_303, m25_304, m25_305i, m25_307, m25_310, m25_312, m25_314, m25_317, m25_319, m25_321, m25_322, m25_325, m25_327, m25_330, m25_331, m25_333, m25_334, m25_336, m25_337, m25_339, m25_340, m25_342, m25_343i, m25_345, m25_346i, m25_348, m25_351, m25_353, m25_355, m25_356, m25_357, m25_360, m25_361, m25_364, m25_366, m25_367, m25_368, m25_371, m25_373, m25_376, m25_378, m25_380, m25_381, m25_382, m25_383, m25_384, m25_387, m25_390, m25_393u, m25_393i, m25_393r, m25_393g, m25_395, m25_397, m25_400u, m25_400i, m25_400r, m25_400g, m25_402, m25_404, m25_406, m25_409, m25_410, m25_411, m25_412u, m25_412i, m25_412r, m25_412g, m25_414, m25_415u, m25_415i, m25_415r, m25_415g, m25_417, m25_418u, m25_418i, m25_418r, m25_418g, m25_422, m25_424, m25_425, m25_427, m25_430, m25_431u, m25_431i, m25_431r, m25_431g, m25_433, m25_434u, m25_434i, m25_434r, m25_434g, m25_438, m25_440, m25_443, m25_445, m25_447, m25_449, m25_450, m25_453, m25_455, m25_457, m25_459, m25_461, m25_463, m25_466, m25_469, m25_470i, m25_472, m25_475, m25_478, m25_481, m25_483, m25_486, m25_489, m25_491, m25_494, m25_496i, m25_498, m25_501, m25_504, m25_506, m25_509, m25_511, m25_514, m25_515, m25_516, m25_518, m25_521, m25_523, m25_524, m25_527, m25_528, m25_531, m25_532, m25_535, m25_536, m25_537, m25_539, m25_542, m25_544, m25_547, m25_548, m25_549, m25_552, m25_555, m25_556, nb0, nb1, ou_a, Option.toList_some, Option.toList_none, List.nil_append, List.cons_append]
      exact hq n' m w' p x0 x1 x2 x3 cu _ _ _ _ _ _ _ s1 A1 h' hp hcu (okS_i _) (okS_n _) (okS_n _) o20 o21 o23
  have y6 : (nI k = 6) = False := eF (c := 6) z6 (by omega) (by decide)
  obtain ⟨a', ha', ea'⟩ := us_nI (nI a) (k := 1) (j := 1) (by decide) (by decide) (by decide)
  have em' : nI a' % nI al = nI (a' % al) := nI_mod ha' (by omega)
  have ml' : a' % al < al := Nat.mod_lt _ (by omega)
  have fin : ∀ s1, OX al cap n m w p s1 A → M25 376 [.val (.ref 0), l1, l2, .val (.int (nI al)), .val (.ref 1), .val (.long x0), .second, .val (.long x1), .second, .val (.long x2), .second, .val (.long x3), .second, .val (.int (nI m)), .val (.int (nI cu)), .val (.int (nI en)), .val (.int (nI t)), .val (.int (v)), .val (.int (nI k)), .val (.int (nI a)), l20, l21, l22, l23] [] (put 1 [((FieldType.array .int, vs.map Value.int) : FieldType × List Value)] s1 A []) Q := by
    intro s1 h1
    simp [ea', nz, em', m25_0, m25_1, m25_2, m25_5, m25_7, m25_10u, m25_11, m25_12, m25_13, m25_16, m25_18, m25_21u, m25_22, m25_23, m25_26u, m25_27, m25_30, m25_31, m25_32, m25_33, m25_36u, m25_38, m25_39, m25_41, m25_42, m25_44, m25_45, m25_47, m25_48, m25_50, m25_51u, m25_53, m25_54u, m25_56, m25_57, m25_57p, m25_58, m25_59, m25_62, m25_63, m25_66, m25_67, m25_67p, m25_68u, m25_70, m25_71u, m25_75, m25_77, m25_80, m25_82, m25_83, m25_86, m25_87, m25_89, m25_89p, m25_90u, m25_90i, m25_90r, m25_90g, m25_92, m25_94, m25_96, m25_97u, m25_97i, m25_97r, m25_97g, m25_99, m25_101, m25_102, m25_103u, m25_103i, m25_103r, m25_103g, m25_105, m25_107, m25_108, m25_111, m25_113, m25_115, m25_116, m25_117, m25_120, m25_121, m25_124, m25_126, m25_127, m25_130, m25_132, m25_133, m25_136, m25_138, m25_140, m25_143, m25_145, m25_146, m25_147u, m25_147i, m25_147r, m25_147g, m25_149, m25_151, m25_152, m25_155, m25_157, m25_159, m25_161, m25_162, m25_165u, m25_165i, m25_165r, m25_165g, m25_167, m25_169, m25_172, m25_174, m25_175, m25_178, m25_180i, m25_182, m25_184, m25_186, m25_189, m25_192, m25_194, m25_195, m25_196, m25_198, m25_200, m25_201, m25_202, m25_203, m25_205, m25_207, m25_209, m25_212, m25_214, m25_216, m25_217, m25_219, m25_222, m25_224, m25_226, m25_229, m25_231, m25_233, m25_234, m25_236, m25_239, m25_241, m25_243, m25_246, m25_248, m25_250, m25_251, m25_253, m25_256, m25_258, m25_260, m25_261, m25_263, m25_266, m25_269, m25_271, m25_272, m25_275, m25_277, m25_280, m25_281, m25_283, m25_284, m25_286, m25_287, m25_289, m25_290, m25_292, m25_293i, m25_295, m25_297, m25_299, m25_302, m25_303, m25_304, m25_305i, m25_307, m25_310, m25_312, m25_314, m25_317, m25_319, m25_321, m25_322, m25_325, m25_327, m25_330, m25_331, m25_333, m25_334, m25_336, m25_337, m25_339, m25_340, m25_342, m25_343i, m25_345, m25_346i, m25_348, m25_351, m25_353, m25_355, m25_356, m25_357, m25_360, m25_361, m25_364, m25_366, m25_367, m25_368, m25_371, m25_373, m25_376, m25_378, m25_380, m25_381, m25_382, m25_383, m25_384, m25_387, m25_390, m25_393u, m25_393i, m25_393r, m25_393g, m25_395, m25_397, m25_400u, m25_400i, m25_400r, m25_400g, m25_402, m25_404, m25_406, m25_409, m25_410, m25_411, m25_412u, m25_412i, m25_412r, m25_412g, m25_414, m25_415u, m25_415i, m25_415r, m25_415g, m25_417, m25_418u, m25_418i, m25_418r, m25_418g, m25_422, m25_424, m25_425, m25_427, m25_430, m25_431u, m25_431i, m25_431r, m25_431g, m25_433, m25_434u, m25_434i, m25_434r, m25_434g, m25_438, m25_440, m25_443, m25_445, m25_447, m25_449, m25_450, m25_453, m25_455, m25_457, m25_459, m25_461, m25_463, m25_466, m25_469, m25_470i, m25_472, m25_475, m25_478, m25_481, m25_483, m25_486, m25_489, m25_491, m25_494, m25_496i, m25_498, m25_501, m25_504, m25_506, m25_509, m25_511, m25_514, m25_515, m25_516, m25_518, m25_521, m25_523, m25_524, m25_527, m25_528, m25_531, m25_532, m25_535, m25_536, m25_537, m25_539, m25_542, m25_544, m25_547, m25_548, m25_549, m25_552, m25_555, m25_556, nb0, nb1, ou_a, Option.toList_some, Option.toList_none, List.nil_append, List.cons_append]
    refine poW (b := 0) h1 ml' (fun x s2 A2 h2 => ?_)
    simp [m25_0, m25_1, m25_2, m25_5, m25_7, m25_10u, m25_11, m25_12, m25_13, m25_16, m25_18, m25_21u, m25_22, m25_23, m25_26u, m25_27, m25_30, m25_31, m25_32, m25_33, m25_36u, m25_38, m25_39, m25_41, m25_42, m25_44, m25_45, m25_47, m25_48, m25_50, m25_51u, m25_53, m25_54u, m25_56, m25_57, m25_57p, m25_58, m25_59, m25_62, m25_63, m25_66, m25_67, m25_67p, m25_68u, m25_70, m25_71u, m25_75, m25_77, m25_80, m25_82, m25_83, m25_86, m25_87, m25_89, m25_89p, m25_90u, m25_90i, m25_90r, m25_90g, m25_92, m25_94, m25_96, m25_97u, m25_97i, m25_97r, m25_97g, m25_99, m25_101, m25_102, m25_103u, m25_103i, m25_103r, m25_103g, m25_105, m25_107, m25_108, m25_111, m25_113, m25_115, m25_116, m25_117, m25_120, m25_121, m25_124, m25_126, m25_127, m25_130, m25_132, m25_133, m25_136, m25_138, m25_140, m25_143, m25_145, m25_146, m25_147u, m25_147i, m25_147r, m25_147g, m25_149, m25_151, m25_152, m25_155, m25_157, m25_159, m25_161, m25_162, m25_165u, m25_165i, m25_165r, m25_165g, m25_167, m25_169, m25_172, m25_174, m25_175, m25_178, m25_180i, m25_182, m25_184, m25_186, m25_189, m25_192, m25_194, m25_195, m25_196, m25_198, m25_200, m25_201, m25_202, m25_203, m25_205, m25_207, m25_209, m25_212, m25_214, m25_216, m25_217, m25_219, m25_222, m25_224, m25_226, m25_229, m25_231, m25_233, m25_234, m25_236, m25_239, m25_241, m25_243, m25_246, m25_248, m25_250, m25_251, m25_253, m25_256, m25_258, m25_260, m25_261, m25_263, m25_266, m25_269, m25_271, m25_272, m25_275, m25_277, m25_280, m25_281, m25_283, m25_284, m25_286, m25_287, m25_289, m25_290, m25_292, m25_293i, m25_295, m25_297, m25_299, m25_302, m25_303, m25_304, m25_305i, m25_307, m25_310, m25_312, m25_314, m25_317, m25_319, m25_321, m25_322, m25_325, m25_327, m25_330, m25_331, m25_333, m25_334, m25_336, m25_337, m25_339, m25_340, m25_342, m25_343i, m25_345, m25_346i, m25_348, m25_351, m25_353, m25_355, m25_356, m25_357, m25_360, m25_361, m25_364, m25_366, m25_367, m25_368, m25_371, m25_373, m25_376, m25_378, m25_380, m25_381, m25_382, m25_383, m25_384, m25_387, m25_390, m25_393u, m25_393i, m25_393r, m25_393g, m25_395, m25_397, m25_400u, m25_400i, m25_400r, m25_400g, m25_402, m25_404, m25_406, m25_409, m25_410, m25_411, m25_412u, m25_412i, m25_412r, m25_412g, m25_414, m25_415u, m25_415i, m25_415r, m25_415g, m25_417, m25_418u, m25_418i, m25_418r, m25_418g, m25_422, m25_424, m25_425, m25_427, m25_430, m25_431u, m25_431i, m25_431r, m25_431g, m25_433, m25_434u, m25_434i, m25_434r, m25_434g, m25_438, m25_440, m25_443, m25_445, m25_447, m25_449, m25_450, m25_453, m25_455, m25_457, m25_459, m25_461, m25_463, m25_466, m25_469, m25_470i, m25_472, m25_475, m25_478, m25_481, m25_483, m25_486, m25_489, m25_491, m25_494, m25_496i, m25_498, m25_501, m25_504, m25_506, m25_509, m25_511, m25_514, m25_515, m25_516, m25_518, m25_521, m25_523, m25_524, m25_527, m25_528, m25_531, m25_532, m25_535, m25_536, m25_537, m25_539, m25_542, m25_544, m25_547, m25_548, m25_549, m25_552, m25_555, m25_556, nb0, nb1, ou_a, Option.toList_some, Option.toList_none, List.nil_append, List.cons_append]
    exact hq n m w p x0 x1 x2 x3 cu _ _ _ _ _ _ _ s2 A2 h2 hp hcu (okS_i _) (okS_n _) (okS_n _) o20 o21 o23
  by_cases x : nI a &&& 1 = 0
  · simp [c2, y3, y4, y5, y6, x, m16_0, m16_1, m16_2, m16_5, nb0, nb1, ou_a, Option.toList_some, Option.toList_none, List.nil_append, List.cons_append, m25_0, m25_1, m25_2, m25_5, m25_7, m25_10u, m25_11, m25_12, m25_13, m25_16, m25_18, m25_21u, m25_22, m25_23, m25_26u, m25_27, m25_30, m25_31, m25_32, m25_33, m25_36u, m25_38, m25_39, m25_41, m25_42, m25_44, m25_45, m25_47, m25_48, m25_50, m25_51u, m25_53, m25_54u, m25_56, m25_57, m25_57p, m25_58, m25_59, m25_62, m25_63, m25_66, m25_67, m25_67p, m25_68u, m25_70, m25_71u, m25_75, m25_77, m25_80, m25_82, m25_83, m25_86, m25_87, m25_89, m25_89p, m25_90u, m25_90i, m25_90r, m25_90g, m25_92, m25_94, m25_96, m25_97u, m25_97i, m25_97r, m25_97g, m25_99, m25_101, m25_102, m25_103u, m25_103i, m25_103r, m25_103g, m25_105, m25_107, m25_108, m25_111, m25_113, m25_115, m25_116, m25_117, m25_120, m25_121, m25_124, m25_126, m25_127, m25_130, m25_132, m25_133, m25_136, m25_138, m25_140, m25_143, m25_145, m25_146, m25_147u, m25_147i, m25_147r, m25_147g, m25_149, m25_151, m25_152, m25_155, m25_157, m25_159, m25_161, m25_162, m25_165u, m25_165i, m25_165r, m25_165g, m25_167, m25_169, m25_172, m25_174, m25_175, m25_178, m25_180i, m25_182, m25_184, m25_186, m25_189, m25_192, m25_194, m25_195, m25_196, m25_198, m25_200, m25_201, m25_202, m25_203, m25_205, m25_207, m25_209, m25_212, m25_214, m25_216, m25_217, m25_219, m25_222, m25_224, m25_226, m25_229, m25_231, m25_233, m25_234, m25_236, m25_239, m25_241, m25_243, m25_246, m25_248, m25_250, m25_251, m25_253, m25_256, m25_258, m25_260, m25_261, m25_263, m25_266, m25_269, m25_271, m25_272, m25_275, m25_277, m25_280, m25_281, m25_283, m25_284, m25_286, m25_287, m25_289, m25_290, m25_292, m25_293i, m25_295, m25_297, m25_299, m25_302, m25_303, m25_304, m25_305i, m25_307, m25_310, m25_312, m25_314, m25_317, m25_319, m25_321, m25_322, m25_325, m25_327, m25_330, m25_331, m25_333, m25_334, m25_336, m25_337, m25_339, m25_340, m25_342, m25_343i, m25_345, m25_346i, m25_348, m25_351, m25_353, m25_355, m25_356, m25_357, m25_360, m25_361, m25_364, m25_366, m25_367, m25_368, m25_371, m25_373, m25_378, m25_380, m25_381, m25_382, m25_383, m25_384, m25_387, m25_388, m25_390, m25_393u, m25_393i, m25_393r, m25_393g, m25_395, m25_397, m25_400u, m25_400i, m25_400r, m25_400g, m25_402, m25_404, m25_406, m25_409, m25_410, m25_411, m25_412u, m25_412i, m25_412r, m25_412g, m25_414, m25_415u, m25_415i, m25_415r, m25_415g, m25_417, m25_418u, m25_418i, m25_418r, m25_418g, m25_422, m25_424, m25_425, m25_427, m25_430, m25_431u, m25_431i, m25_431r, m25_431g, m25_433, m25_434u, m25_434i, m25_434r, m25_434g, m25_438, m25_440, m25_443, m25_445, m25_447, m25_449, m25_450, m25_453, m25_455, m25_457, m25_459, m25_461, m25_463, m25_466, m25_469, m25_470i, m25_472, m25_475, m25_478, m25_481, m25_483, m25_486, m25_489, m25_491, m25_494, m25_496i, m25_498, m25_501, m25_504, m25_506, m25_509, m25_511, m25_514, m25_515, m25_516, m25_518, m25_521, m25_523, m25_524, m25_527, m25_528, m25_531, m25_532, m25_535, m25_536, m25_537, m25_539, m25_542, m25_544, m25_547, m25_548, m25_549, m25_552, m25_555, m25_556, nb0, nb1, ou_a, Option.toList_some, Option.toList_none, List.nil_append, List.cons_append]
    exact fin _ (clO h)
  · simp [c2, y3, y4, y5, y6, x, m25_0, m25_1, m25_2, m25_5, m25_7, m25_10u, m25_11, m25_12, m25_13, m25_16, m25_18, m25_21u, m25_22, m25_23, m25_26u, m25_27, m25_30, m25_31, m25_32, m25_33, m25_36u, m25_38, m25_39, m25_41, m25_42, m25_44, m25_45, m25_47, m25_48, m25_50, m25_51u, m25_53, m25_54u, m25_56, m25_57, m25_57p, m25_58, m25_59, m25_62, m25_63, m25_66, m25_67, m25_67p, m25_68u, m25_70, m25_71u, m25_75, m25_77, m25_80, m25_82, m25_83, m25_86, m25_87, m25_89, m25_89p, m25_90u, m25_90i, m25_90r, m25_90g, m25_92, m25_94, m25_96, m25_97u, m25_97i, m25_97r, m25_97g, m25_99, m25_101, m25_102, m25_103u, m25_103i, m25_103r, m25_103g, m25_105, m25_107, m25_108, m25_111, m25_113, m25_115, m25_116, m25_117, m25_120, m25_121, m25_124, m25_126, m25_127, m25_130, m25_132, m25_133, m25_136, m25_138, m25_140, m25_143, m25_145, m25_146, m25_147u, m25_147i, m25_147r, m25_147g, m25_149, m25_151, m25_152, m25_155, m25_157, m25_159, m25_161, m25_162, m25_165u, m25_165i, m25_165r, m25_165g, m25_167, m25_169, m25_172, m25_174, m25_175, m25_178, m25_180i, m25_182, m25_184, m25_186, m25_189, m25_192, m25_194, m25_195, m25_196, m25_198, m25_200, m25_201, m25_202, m25_203, m25_205, m25_207, m25_209, m25_212, m25_214, m25_216, m25_217, m25_219, m25_222, m25_224, m25_226, m25_229, m25_231, m25_233, m25_234, m25_236, m25_239, m25_241, m25_243, m25_246, m25_248, m25_250, m25_251, m25_253, m25_256, m25_258, m25_260, m25_261, m25_263, m25_266, m25_269, m25_271, m25_272, m25_275, m25_277, m25_280, m25_281, m25_283, m25_284, m25_286, m25_287, m25_289, m25_290, m25_292, m25_293i, m25_295, m25_297, m25_299, m25_302, m25_303, m25_304, m25_305i, m25_307, m25_310, m25_312, m25_314, m25_317, m25_319, m25_321, m25_322, m25_325, m25_327, m25_330, m25_331, m25_333, m25_334, m25_336, m25_337, m25_339, m25_340, m25_342, m25_343i, m25_345, m25_346i, m25_348, m25_351, m25_353, m25_355, m25_356, m25_357, m25_360, m25_361, m25_364, m25_366, m25_367, m25_368, m25_371, m25_373, m25_378, m25_380, m25_381, m25_382, m25_383, m25_384, m25_387, m25_388, m25_390, m25_393u, m25_393i, m25_393r, m25_393g, m25_395, m25_397, m25_400u, m25_400i, m25_400r, m25_400g, m25_402, m25_404, m25_406, m25_409, m25_410, m25_411, m25_412u, m25_412i, m25_412r, m25_412g, m25_414, m25_415u, m25_415i, m25_415r, m25_415g, m25_417, m25_418u, m25_418i, m25_418r, m25_418g, m25_422, m25_424, m25_425, m25_427, m25_430, m25_431u, m25_431i, m25_431r, m25_431g, m25_433, m25_434u, m25_434i, m25_434r, m25_434g, m25_438, m25_440, m25_443, m25_445, m25_447, m25_449, m25_450, m25_453, m25_455, m25_457, m25_459, m25_461, m25_463, m25_466, m25_469, m25_470i, m25_472, m25_475, m25_478, m25_481, m25_483, m25_486, m25_489, m25_491, m25_494, m25_496i, m25_498, m25_501, m25_504, m25_506, m25_509, m25_511, m25_514, m25_515, m25_516, m25_518, m25_521, m25_523, m25_524, m25_527, m25_528, m25_531, m25_532, m25_535, m25_536, m25_537, m25_539, m25_542, m25_544, m25_547, m25_548, m25_549, m25_552, m25_555, m25_556, nb0, nb1, ou_a, Option.toList_some, Option.toList_none, List.nil_append, List.cons_append]
    exact fin s h
theorem opW (h : OX al cap n m w p s A) (hp : PQ x0 x1 x2 x3 m p) (hcu : cu ≤ 64) (o20 : okS l20) (o21 : okP l21 l22) (o23 : okS l23)  (o17 : okS l17) (o18 : okS l18) (o19 : okS l19) (hq : ∀ n' m' w' p' x0' x1' x2' x3' cu' l17 l18 l19 l20 l21 l22 l23 s' A', OX al cap n' m' w' p' s' A' → PQ x0' x1' x2' x3' m' p' → cu' ≤ 64 → okS l17 → okS l18 → okS l19 → okS l20 → okP l21 l22 → okS l23 → M25 388 [.val (.ref 0), l1, l2, .val (.int (nI al)), .val (.ref 1), .val (.long x0'), .second, .val (.long x1'), .second, .val (.long x2'), .second, .val (.long x3'), .second, .val (.int (nI m')), .val (.int (nI cu')), .val (.int (nI en)), .val (.int (nI t)), l17, l18, l19, l20, l21, l22, l23] [] (put 1 [((FieldType.array .int, vs.map Value.int) : FieldType × List Value)] s' A' []) Q) (hlen : vs.length ≤ 260) (ht : t < vs.length) : M25 86 [.val (.ref 0), l1, l2, .val (.int (nI al)), .val (.ref 1), .val (.long x0), .second, .val (.long x1), .second, .val (.long x2), .second, .val (.long x3), .second, .val (.int (nI m)), .val (.int (nI cu)), .val (.int (nI en)), .val (.int (nI t)), l17, l18, l19, l20, l21, l22, l23] [] (put 1 [((FieldType.array .int, vs.map Value.int) : FieldType × List Value)] s A []) Q := by
  have x0' : inB (nI t) vs := nI_in ht (by omega)
  have e7 : getA vs (nI t) &&& 7 = nI (am 3 (getA vs (nI t))) := and_am (k := 3) (by decide) _
  have b7 := am_lt 3 (getA vs (nI t))
  obtain ⟨a, ha, ea⟩ := us_nI (getA vs (nI t)) (k := 3) (j := 3) (by decide) (by decide) (by decide)
  simp [x0', e7, ea, o17, o18, o19, m25_0, m25_1, m25_2, m25_5, m25_7, m25_10u, m25_11, m25_12, m25_13, m25_16, m25_18, m25_21u, m25_22, m25_23, m25_26u, m25_27, m25_30, m25_31, m25_32, m25_33, m25_36u, m25_38, m25_39, m25_41, m25_42, m25_44, m25_45, m25_47, m25_48, m25_50, m25_51u, m25_53, m25_54u, m25_56, m25_57, m25_57p, m25_58, m25_59, m25_62, m25_63, m25_66, m25_67, m25_67p, m25_68u, m25_70, m25_71u, m25_75, m25_77, m25_80, m25_82, m25_83, m25_86, m25_87, m25_89, m25_89p, m25_90u, m25_90i, m25_90r, m25_90g, m25_92, m25_94, m25_96, m25_97u, m25_97i, m25_97r, m25_97g, m25_99, m25_101, m25_102, m25_103u, m25_103i, m25_103r, m25_103g, m25_107, m25_108, m25_111, m25_113, m25_115, m25_116, m25_117, m25_120, m25_121, m25_124, m25_126, m25_127, m25_130, m25_132, m25_133, m25_136, m25_138, m25_140, m25_143, m25_145, m25_146, m25_147u, m25_147i, m25_147r, m25_147g, m25_149, m25_151, m25_152, m25_155, m25_157, m25_159, m25_161, m25_162, m25_165u, m25_165i, m25_165r, m25_165g, m25_167, m25_169, m25_172, m25_174, m25_175, m25_178, m25_180i, m25_182, m25_184, m25_186, m25_189, m25_192, m25_194, m25_195, m25_196, m25_198, m25_200, m25_201, m25_202, m25_203, m25_205, m25_207, m25_209, m25_212, m25_214, m25_216, m25_217, m25_219, m25_222, m25_224, m25_226, m25_229, m25_231, m25_233, m25_234, m25_236, m25_239, m25_241, m25_243, m25_246, m25_248, m25_250, m25_251, m25_253, m25_256, m25_258, m25_260, m25_261, m25_263, m25_266, m25_269, m25_271, m25_272, m25_275, m25_277, m25_280, m25_281, m25_283, m25_284, m25_286, m25_287, m25_289, m25_290, m25_292, m25_293i, m25_295, m25_297, m25_299, m25_302, m25_303, m25_304, m25_305i, m25_307, m25_310, m25_312, m25_314, m25_317, m25_319, m25_321, m25_322, m25_325, m25_327, m25_330, m25_331, m25_333, m25_334, m25_336, m25_337, m25_339, m25_340, m25_342, m25_343i, m25_345, m25_346i, m25_348, m25_351, m25_353, m25_355, m25_356, m25_357, m25_360, m25_361, m25_364, m25_366, m25_367, m25_368, m25_371, m25_373, m25_376, m25_378, m25_380, m25_381, m25_382, m25_383, m25_384, m25_387, m25_388, m25_390, m25_393u, m25_393i, m25_393r, m25_393g, m25_395, m25_397, m25_400u, m25_400i, m25_400r, m25_400g, m25_402, m25_404, m25_406, m25_409, m25_410, m25_411, m25_412u, m25_412i, m25_412r, m25_412g, m25_414, m25_415u, m25_415i, m25_415r, m25_415g, m25_417, m25_418u, m25_418i, m25_418r, m25_418g, m25_422, m25_424, m25_425, m25_427, m25_430, m25_431u, m25_431i, m25_431r, m25_431g, m25_433, m25_434u, m25_434i, m25_434r, m25_434g, m25_438, m25_440, m25_443, m25_445, m25_447, m25_449, m25_450, m25_453, m25_455, m25_457, m25_459, m25_461, m25_463, m25_466, m25_469, m25_470i, m25_472, m25_475, m25_478, m25_481, m25_483, m25_486, m25_489, m25_491, m25_494, m25_496i, m25_498, m25_501, m25_504, m25_506, m25_509, m25_511, m25_514, m25_515, m25_516, m25_518, m25_521, m25_523, m25_524, m25_527, m25_528, m25_531, m25_532, m25_535, m25_536, m25_537, m25_539, m25_542, m25_544, m25_547, m25_548, m25_549, m25_552, m25_555, m25_556, nb0, nb1, ou_a, Option.toList_some, Option.toList_none, List.nil_append, List.cons_append]
  exact opA ha (by omega) h hp hcu o20 o21 o23 hq
theorem loop (hlen : vs.length ≤ 260) (een : en = max 2 vs.length) (hF : ∀ s' A', LN A' → Q (some (.int 1)) (put 1 [((FieldType.array .int, vs.map Value.int) : FieldType × List Value)] s' A' [])) : ∀ (r t n m : Nat) (w p : Nat → Nat) (x0 x1 x2 x3 : Int64) (cu : Nat) (l17 l18 l19 l20 l21 l22 l23 : Slot) (s : Nat → Int32) (A : Nat → List Int32), t + r = en → 1 ≤ t → OX al cap n m w p s A → PQ x0 x1 x2 x3 m p → cu ≤ 64 → okS l17 → okS l18 → okS l19 → okS l20 → okP l21 l22 → okS l23 → M25 73 [.val (.ref 0), l1, l2, .val (.int (nI al)), .val (.ref 1), .val (.long x0), .second, .val (.long x1), .second, .val (.long x2), .second, .val (.long x3), .second, .val (.int (nI m)), .val (.int (nI cu)), .val (.int (nI en)), .val (.int (nI t)), l17, l18, l19, l20, l21, l22, l23] [] (put 1 [((FieldType.array .int, vs.map Value.int) : FieldType × List Value)] s A []) Q := by
  intro r
  induction r with
  | zero =>
    intro t n m w p x0 x1 x2 x3 cu l17 l18 l19 l20 l21 l22 l23 s A e t1 h hp hcu o17 o18 o19 o20 o21 o23
    obtain rfl : t = en := by omega
    have c1 : (nI t < nI t) = False := lF (by omega) (by omega)
    rw [m25_73]
    simp [c1, m25_0, m25_1, m25_2, m25_5, m25_7, m25_10u, m25_11, m25_12, m25_13, m25_16, m25_18, m25_21u, m25_22, m25_23, m25_26u, m25_27, m25_30, m25_31, m25_32, m25_33, m25_36u, m25_38, m25_39, m25_41, m25_42, m25_44, m25_45, m25_47, m25_48, m25_50, m25_51u, m25_53, m25_54u, m25_56, m25_57, m25_57p, m25_58, m25_59, m25_62, m25_63, m25_66, m25_67, m25_67p, m25_68u, m25_70, m25_71u, m25_75, m25_77, m25_80, m25_82, m25_83, m25_86, m25_87, m25_89, m25_89p, m25_90u, m25_90i, m25_90r, m25_90g, m25_92, m25_94, m25_96, m25_97u, m25_97i, m25_97r, m25_97g, m25_99, m25_101, m25_102, m25_103u, m25_103i, m25_103r, m25_103g, m25_105, m25_107, m25_108, m25_111, m25_113, m25_115, m25_116, m25_117, m25_120, m25_121, m25_124, m25_126, m25_127, m25_130, m25_132, m25_133, m25_136, m25_138, m25_140, m25_143, m25_145, m25_146, m25_147u, m25_147i, m25_147r, m25_147g, m25_149, m25_151, m25_152, m25_155, m25_157, m25_159, m25_161, m25_162, m25_165u, m25_165i, m25_165r, m25_165g, m25_167, m25_169, m25_172, m25_174, m25_175, m25_178, m25_180i, m25_182, m25_184, m25_186, m25_189, m25_192, m25_194, m25_195, m25_196, m25_198, m25_200, m25_201, m25_202, m25_203, m25_205, m25_207, m25_209, m25_212, m25_214, m25_216, m25_217, m25_219, m25_222, m25_224, m25_226, m25_229, m25_231, m25_233, m25_234, m25_236, m25_239, m25_241, m25_243, m25_246, m25_248, m25_250, m25_251, m25_253, m25_256, m25_258, m25_260, m25_261, m25_263, m25_266, m25_269, m25_271, m25_272, m25_275, m25_277, m25_280, m25_281, m25_283, m25_284, m25_286, m25_287, m25_289, m25_290, m25_292, m25_293i, m25_295, m25_297, m25_299, m25_302, m25_303, m25_304, m25_305i, m25_307, m25_310, m25_312, m25_314, m25_317, m25_319, m25_321, m25_322, m25_325, m25_327, m25_330, m25_331, m25_333, m25_334, m25_336, m25_337, m25_339, m25_340, m25_342, m25_343i, m25_345, m25_346i, m25_348, m25_351, m25_353, m25_355, m25_356, m25_357, m25_360, m25_361, m25_364, m25_366, m25_367, m25_368, m25_371, m25_373, m25_376, m25_378, m25_380, m25_381, m25_382, m25_383, m25_384, m25_387, m25_388, m25_390, m25_393u, m25_393i, m25_393r, m25_393g, m25_395, m25_397, m25_400u, m25_400i, m25_400r, m25_400g, m25_402, m25_404, m25_406, m25_409, m25_410, m25_411, m25_412u, m25_412i, m25_412r, m25_412g, m25_414, m25_415u, m25_415i, m25_415r, m25_415g, m25_417, m25_418u, m25_418i, m25_418r, m25_418g, m25_422, m25_424, m25_425, m25_427, m25_430, m25_431u, m25_431i, m25_431r, m25_431g, m25_433, m25_434u, m25_434i, m25_434r, m25_434g, m25_438, m25_440, m25_443, m25_445, m25_447, m25_449, m25_450, m25_453, m25_455, m25_457, m25_459, m25_461, m25_463, m25_466, m25_469, m25_470i, m25_472, m25_475, m25_478, m25_481, m25_483, m25_486, m25_489, m25_491, m25_494, m25_496i, m25_498, m25_501, m25_504, m25_506, m25_509, m25_511, m25_514, m25_515, m25_516, m25_518, m25_521, m25_523, m25_524, m25_527, m25_528, m25_531, m25_532, m25_535, m25_536, m25_537, m25_539, m25_542, m25_544, m25_547, m25_548, m25_549, m25_552, m25_555, m25_556, nb0, nb1, ou_a, Option.toList_some, Option.toList_none, List.nil_append, List.cons_append]
    exact hF s A h.ln
  | succ r ih =>
    intro t n m w p x0 x1 x2 x3 cu l17 l18 l19 l20 l21 l22 l23 s A e t1 h hp hcu o17 o18 o19 o20 o21 o23
    have c1 : (nI t < nI en) = True := lT (by omega) (by omega)
    have chk : ∀ (n m : Nat) (w p : Nat → Nat) (x0 x1 x2 x3 : Int64) (cu : Nat) (l17 l18 l19 l20 l21 l22 l23 : Slot) (s : Nat → Int32) (A : Nat → List Int32), OX al cap n m w p s A → PQ x0 x1 x2 x3 m p → cu ≤ 64 → okS l17 → okS l18 → okS l19 → okS l20 → okP l21 l22 → okS l23 → M25 388 [.val (.ref 0), l1, l2, .val (.int (nI al)), .val (.ref 1), .val (.long x0), .second, .val (.long x1), .second, .val (.long x2), .second, .val (.long x3), .second, .val (.int (nI m)), .val (.int (nI cu)), .val (.int (nI en)), .val (.int (nI t)), l17, l18, l19, l20, l21, l22, l23] [] (put 1 [((FieldType.array .int, vs.map Value.int) : FieldType × List Value)] s A []) Q := by
      intro n m w p x0 x1 x2 x3 cu l17 l18 l19 l20 l21 l22 l23 s A h hp hcu o17 o18 o19 o20 o21 o23
      refine ckW h hp o17 o18 o19 o20 o21 o23 (fun l17 l18 l19 l20 l21 l22 l23 s' A' h' p17 p18 p19 p20 p21 p23 => ?_)
      simp [nI_1, m25_549, m25_552, nb0, nb1, ou_a, Option.toList_some, Option.toList_none, List.nil_append, List.cons_append]
      exact ih (t + 1) n m w p x0 x1 x2 x3 cu _ _ _ _ _ _ _ s' A' (by omega) (by omega) h' hp hcu p17 p18 p19 p20 p21 p23
    rw [m25_73]
    by_cases z : t < 2
    · have z1 : (nI t < 2) = True := lT (c := 2) z (by decide)
      simp [c1, z1, m25_75, m25_77, m25_80, m25_82, m25_83, nb0, nb1, ou_a, Option.toList_some, Option.toList_none, List.nil_append, List.cons_append]
      exact chk n m w p x0 x1 x2 x3 cu _ _ _ _ _ _ _ s A h hp hcu o17 o18 o19 o20 o21 o23
    · have z1 : (nI t < 2) = False := lF (c := 2) (by omega) (by omega)
      simp [c1, z1, m25_75, m25_77, m25_80, m25_82, m25_83, nb0, nb1, ou_a, Option.toList_some, Option.toList_none, List.nil_append, List.cons_append]
      refine opW h hp hcu o20 o21 o23 o17 o18 o19 (fun n' m' w' p' y0 y1 y2 y3 cu' l17 l18 l19 l20 l21 l22 l23 s' A' k1 k2 k3 p17 p18 p19 p20 p21 p23 => ?_) hlen (by omega)
      exact chk n' m' w' p' y0 y1 y2 y3 cu' _ _ _ _ _ _ _ s' A' k1 k2 k3 p17 p18 p19 p20 p21 p23
end Law
set_option maxRecDepth 1000000 in
set_option maxHeartbeats 20000000 in
theorem own_k {vs : List Int32} {Q : Option Value → AHeap → Prop} (hlen : vs.length ≤ 260) (hF : ∀ s A, LN A → Q (some (.int 1)) (put 1 [((FieldType.array .int, vs.map Value.int) : FieldType × List Value)] s A [])) : M25 0 [.val (.ref 0), .unset, .unset, .unset, .unset, .unset, .unset, .unset, .unset, .unset, .unset, .unset, .unset, .unset, .unset, .unset, .unset, .unset, .unset, .unset, .unset, .unset, .unset, .unset] [] [((FieldType.array .int, vs.map Value.int) : FieldType × List Value)] Q := by
  have fin : ∀ (al cap : Nat) (l1 l2 z3 z4 : Int32) (s : Nat → Int32), 2 ≤ al ∧ al ≤ 8 → cap ≤ 64 → s 0 = nI al → s 1 = nI cap → s 2 = 0 → s 3 = 0 → s 4 = 0 → M1 0 [.val (.ref 1)] [] (put 1 [((FieldType.array .int, vs.map Value.int) : FieldType × List Value)] s A0 []) (fun v H1 => M0 172 [.val (.ref 1), .val (.int l1), .val (.int l2), .val (.int z3), .val (.int z4)] v.toList H1 (fun v H1 => M25 36 [.val (.ref 0), .val (.int l1), .val (.int l2), .val (.int (nI al)), .unset, .unset, .unset, .unset, .unset, .unset, .unset, .unset, .unset, .unset, .unset, .unset, .unset, .unset, .unset, .unset, .unset, .unset, .unset, .unset] (v.toList ++ [.ref 1]) H1 Q)) := by
    intro al cap l1 l2 z3 z4 s ha hc s0 s1 s2 s3 s4
    refine raW (b := 0) (fun _ => rfl) s0 ha s1 hc s2 s3 s4 (fun s' A' h => ?_)
    by_cases z : vs.length < 2
    · have z1 : (vs.length.toInt32 < 2) = True := lT (a := vs.length) (c := 2) z (by decide)
      simp [z1, m0_172, m25_36u, m25_38, m25_39, m25_41, m25_42, m25_44, m25_45, m25_47, m25_48, m25_50, m25_51u, m25_53, m25_54u, m25_56, m25_57, m25_57p, m25_58, m25_59, m25_62, m25_63, m25_66, m25_67, m25_67p, m25_68u, m25_70, m25_71u, nb0, nb1, ou_a, Option.toList_some, Option.toList_none, List.nil_append, List.cons_append]
      exact loop (al := al) (cap := cap) (en := 2) hlen (by omega) hF 1 1 0 0 _ _ 0 0 0 0 0 _ _ _ _ _ _ _ s' A' (by omega) (by omega) h (PQ_0 _) (by omega) okS_u okS_u okS_u okS_u okP_u okS_u
    · have z1 : (vs.length.toInt32 < 2) = False := lF (a := vs.length) (c := 2) (by omega) (by omega)
      simp [z1, m0_172, m25_36u, m25_38, m25_39, m25_41, m25_42, m25_44, m25_45, m25_47, m25_48, m25_50, m25_51u, m25_53, m25_54u, m25_56, m25_57, m25_57p, m25_58, m25_59, m25_62, m25_63, m25_66, m25_67, m25_67p, m25_68u, m25_70, m25_71u, nb0, nb1, ou_a, Option.toList_some, Option.toList_none, List.nil_append, List.cons_append]
      exact loop (al := al) (cap := cap) (en := vs.length) hlen (by omega) hF (vs.length - 1) 1 0 0 _ _ 0 0 0 0 0 _ _ _ _ _ _ _ s' A' (by omega) (by omega) h (PQ_0 _) (by omega) okS_u okS_u okS_u okS_u okP_u okS_u
  simp [m25_0, m25_1, m25_2, nb0, nb1, ou_a, Option.toList_some, Option.toList_none, List.nil_append, List.cons_append]
  refine cellR (j := 0) hlen (by decide) (fun v0 => ?_)
  simp [m25_5, m25_7, nb0, nb1, ou_a, Option.toList_some, Option.toList_none, List.nil_append, List.cons_append]
  refine modW (m := 10) (by decide) (by decide) (fun k0 hk0 => ?_)
  simp [m25_10u, m25_11, m25_12, m25_13, nb0, nb1, ou_a, Option.toList_some, Option.toList_none, List.nil_append, List.cons_append]
  refine cellR (j := 1) hlen (by decide) (fun v1 => ?_)
  simp [m25_16, m25_18, nb0, nb1, ou_a, Option.toList_some, Option.toList_none, List.nil_append, List.cons_append]
  refine modW (m := 70) (by decide) (by decide) (fun k1 hk1 => ?_)
  have go : ∀ al, 2 ≤ al ∧ al ≤ 8 → ((nI k0 < 2) = True ∧ al = 2 ∨ (nI k0 < 2) = False ∧ (8 < nI k0) = True ∧ al = 8 ∨ (nI k0 < 2) = False ∧ (8 < nI k0) = False ∧ al = k0) → M25 21 [.val (.ref 0), .val (.int (nI k0)), .unset, .unset, .unset, .unset, .unset, .unset, .unset, .unset, .unset, .unset, .unset, .unset, .unset, .unset, .unset, .unset, .unset, .unset, .unset, .unset, .unset, .unset] [.int (nI k1)] [((FieldType.array .int, vs.map Value.int) : FieldType × List Value)] Q := by
    intro al ha hal
    have cs : ∀ cap, cap ≤ 64 → ((nI k1 < 8) = True ∧ cap = 8 ∨ (nI k1 < 8) = False ∧ (64 < nI k1) = True ∧ cap = 64 ∨ (nI k1 < 8) = False ∧ (64 < nI k1) = False ∧ cap = k1) → M25 21 [.val (.ref 0), .val (.int (nI k0)), .unset, .unset, .unset, .unset, .unset, .unset, .unset, .unset, .unset, .unset, .unset, .unset, .unset, .unset, .unset, .unset, .unset, .unset, .unset, .unset, .unset, .unset] [.int (nI k1)] [((FieldType.array .int, vs.map Value.int) : FieldType × List Value)] Q := by
      intro cap hc hcap
      rcases hal with ⟨a1, rfl⟩ | ⟨a1, a2, rfl⟩ | ⟨a1, a2, rfl⟩ <;> rcases hcap with ⟨b1, rfl⟩ | ⟨b1, b2, rfl⟩ | ⟨b1, b2, rfl⟩
      · simp [*, m23_0, m23_1, m23_2, m23_5, m23_6, m23_9, m23_10, m23_12, m23_15, m23_17, m23_20, m23_21, m25_21u, m25_22, m25_23, m25_26u, m25_27, m25_30, m25_31, m25_32, m25_33, nb0, nb1, ou_a, Option.toList_some, Option.toList_none, List.nil_append, List.cons_append]
        refine Eq.mpr (own_ctor0 (pre := [((FieldType.array .int, vs.map Value.int) : FieldType × List Value)]) (b := 1) rfl (Nat.le_refl 1)) ?_
        simp [*, m0_0, m0_1, m0_4, m0_5, m0_12, m0_13, m0_20, m0_21, m0_28, m0_29, m0_37, m0_38, m0_46, m0_47, m0_55, m0_56, m0_64, m0_65, m0_73, m0_74, m0_82, m0_83, m0_91, m0_92, m0_99, m0_100u, m0_101, m0_102, m0_103, m0_106, m0_107i, m0_108, m0_109, m0_111, m0_114, m0_116i, m0_117, m0_118u, m0_120, m0_122, m0_124, m0_127, m0_129i, m0_131, m0_133, m0_135, m0_138, m0_140i, m0_142, m0_143, m0_144, m0_147, m0_148, m0_150, m0_153, m0_154, m0_155, m0_158, m0_159, m0_160, m0_163, m0_164, m0_165, m0_168, m0_169, m0_172, m25_21u, m25_22, m25_23, m25_26u, m25_27, m25_30, m25_31, m25_32, m25_33, nb0, nb1, ou_a, Option.toList_some, Option.toList_none, List.nil_append, List.cons_append]
        exact fin 2 8 _ _ _ _ _ (by omega) (by omega) rfl rfl rfl rfl rfl
      · simp [*, m23_0, m23_1, m23_2, m23_5, m23_6, m23_9, m23_10, m23_12, m23_15, m23_17, m23_20, m23_21, m25_21u, m25_22, m25_23, m25_26u, m25_27, m25_30, m25_31, m25_32, m25_33, nb0, nb1, ou_a, Option.toList_some, Option.toList_none, List.nil_append, List.cons_append]
        refine Eq.mpr (own_ctor0 (pre := [((FieldType.array .int, vs.map Value.int) : FieldType × List Value)]) (b := 1) rfl (Nat.le_refl 1)) ?_
        simp [*, m0_0, m0_1, m0_4, m0_5, m0_12, m0_13, m0_20, m0_21, m0_28, m0_29, m0_37, m0_38, m0_46, m0_47, m0_55, m0_56, m0_64, m0_65, m0_73, m0_74, m0_82, m0_83, m0_91, m0_92, m0_99, m0_100u, m0_101, m0_102, m0_103, m0_106, m0_107i, m0_108, m0_109, m0_111, m0_114, m0_116i, m0_117, m0_118u, m0_120, m0_122, m0_124, m0_127, m0_129i, m0_131, m0_133, m0_135, m0_138, m0_140i, m0_142, m0_143, m0_144, m0_147, m0_148, m0_150, m0_153, m0_154, m0_155, m0_158, m0_159, m0_160, m0_163, m0_164, m0_165, m0_168, m0_169, m0_172, m25_21u, m25_22, m25_23, m25_26u, m25_27, m25_30, m25_31, m25_32, m25_33, nb0, nb1, ou_a, Option.toList_some, Option.toList_none, List.nil_append, List.cons_append]
        exact fin 2 64 _ _ _ _ _ (by omega) (by omega) rfl rfl rfl rfl rfl
      · simp [*, m23_0, m23_1, m23_2, m23_5, m23_6, m23_9, m23_10, m23_12, m23_15, m23_17, m23_20, m23_21, m25_21u, m25_22, m25_23, m25_26u, m25_27, m25_30, m25_31, m25_32, m25_33, nb0, nb1, ou_a, Option.toList_some, Option.toList_none, List.nil_append, List.cons_append]
        refine Eq.mpr (own_ctor0 (pre := [((FieldType.array .int, vs.map Value.int) : FieldType × List Value)]) (b := 1) rfl (Nat.le_refl 1)) ?_
        simp [*, m0_0, m0_1, m0_4, m0_5, m0_12, m0_13, m0_20, m0_21, m0_28, m0_29, m0_37, m0_38, m0_46, m0_47, m0_55, m0_56, m0_64, m0_65, m0_73, m0_74, m0_82, m0_83, m0_91, m0_92, m0_99, m0_100u, m0_101, m0_102, m0_103, m0_106, m0_107i, m0_108, m0_109, m0_111, m0_114, m0_116i, m0_117, m0_118u, m0_120, m0_122, m0_124, m0_127, m0_129i, m0_131, m0_133, m0_135, m0_138, m0_140i, m0_142, m0_143, m0_144, m0_147, m0_148, m0_150, m0_153, m0_154, m0_155, m0_158, m0_159, m0_160, m0_163, m0_164, m0_165, m0_168, m0_169, m0_172, m25_21u, m25_22, m25_23, m25_26u, m25_27, m25_30, m25_31, m25_32, m25_33, nb0, nb1, ou_a, Option.toList_some, Option.toList_none, List.nil_append, List.cons_append]
        exact fin 2 cap _ _ _ _ _ (by omega) (by omega) rfl rfl rfl rfl rfl
      · simp [*, m23_0, m23_1, m23_2, m23_5, m23_6, m23_9, m23_10, m23_12, m23_15, m23_17, m23_20, m23_21, m25_21u, m25_22, m25_23, m25_26u, m25_27, m25_30, m25_31, m25_32, m25_33, nb0, nb1, ou_a, Option.toList_some, Option.toList_none, List.nil_append, List.cons_append]
        refine Eq.mpr (own_ctor0 (pre := [((FieldType.array .int, vs.map Value.int) : FieldType × List Value)]) (b := 1) rfl (Nat.le_refl 1)) ?_
        simp [*, m0_0, m0_1, m0_4, m0_5, m0_12, m0_13, m0_20, m0_21, m0_28, m0_29, m0_37, m0_38, m0_46, m0_47, m0_55, m0_56, m0_64, m0_65, m0_73, m0_74, m0_82, m0_83, m0_91, m0_92, m0_99, m0_100u, m0_101, m0_102, m0_103, m0_106, m0_107i, m0_108, m0_109, m0_111, m0_114, m0_116i, m0_117, m0_118u, m0_120, m0_122, m0_124, m0_127, m0_129i, m0_131, m0_133, m0_135, m0_138, m0_140i, m0_142, m0_143, m0_144, m0_147, m0_148, m0_150, m0_153, m0_154, m0_155, m0_158, m0_159, m0_160, m0_163, m0_164, m0_165, m0_168, m0_169, m0_172, m25_21u, m25_22, m25_23, m25_26u, m25_27, m25_30, m25_31, m25_32, m25_33, nb0, nb1, ou_a, Option.toList_some, Option.toList_none, List.nil_append, List.cons_append]
        exact fin 8 8 _ _ _ _ _ (by omega) (by omega) rfl rfl rfl rfl rfl
      · simp [*, m23_0, m23_1, m23_2, m23_5, m23_6, m23_9, m23_10, m23_12, m23_15, m23_17, m23_20, m23_21, m25_21u, m25_22, m25_23, m25_26u, m25_27, m25_30, m25_31, m25_32, m25_33, nb0, nb1, ou_a, Option.toList_some, Option.toList_none, List.nil_append, List.cons_append]
        refine Eq.mpr (own_ctor0 (pre := [((FieldType.array .int, vs.map Value.int) : FieldType × List Value)]) (b := 1) rfl (Nat.le_refl 1)) ?_
        simp [*, m0_0, m0_1, m0_4, m0_5, m0_12, m0_13, m0_20, m0_21, m0_28, m0_29, m0_37, m0_38, m0_46, m0_47, m0_55, m0_56, m0_64, m0_65, m0_73, m0_74, m0_82, m0_83, m0_91, m0_92, m0_99, m0_100u, m0_101, m0_102, m0_103, m0_106, m0_107i, m0_108, m0_109, m0_111, m0_114, m0_116i, m0_117, m0_118u, m0_120, m0_122, m0_124, m0_127, m0_129i, m0_131, m0_133, m0_135, m0_138, m0_140i, m0_142, m0_143, m0_144, m0_147, m0_148, m0_150, m0_153, m0_154, m0_155, m0_158, m0_159, m0_160, m0_163, m0_164, m0_165, m0_168, m0_169, m0_172, m25_21u, m25_22, m25_23, m25_26u, m25_27, m25_30, m25_31, m25_32, m25_33, nb0, nb1, ou_a, Option.toList_some, Option.toList_none, List.nil_append, List.cons_append]
        exact fin 8 64 _ _ _ _ _ (by omega) (by omega) rfl rfl rfl rfl rfl
      · simp [*, m23_0, m23_1, m23_2, m23_5, m23_6, m23_9, m23_10, m23_12, m23_15, m23_17, m23_20, m23_21, m25_21u, m25_22, m25_23, m25_26u, m25_27, m25_30, m25_31, m25_32, m25_33, nb0, nb1, ou_a, Option.toList_some, Option.toList_none, List.nil_append, List.cons_append]
        refine Eq.mpr (own_ctor0 (pre := [((FieldType.array .int, vs.map Value.int) : FieldType × List Value)]) (b := 1) rfl (Nat.le_refl 1)) ?_
        simp [*, m0_0, m0_1, m0_4, m0_5, m0_12, m0_13, m0_20, m0_21, m0_28, m0_29, m0_37, m0_38, m0_46, m0_47, m0_55, m0_56, m0_64, m0_65, m0_73, m0_74, m0_82, m0_83, m0_91, m0_92, m0_99, m0_100u, m0_101, m0_102, m0_103, m0_106, m0_107i, m0_108, m0_109, m0_111, m0_114, m0_116i, m0_117, m0_118u, m0_120, m0_122, m0_124, m0_127, m0_129i, m0_131, m0_133, m0_135, m0_138, m0_140i, m0_142, m0_143, m0_144, m0_147, m0_148, m0_150, m0_153, m0_154, m0_155, m0_158, m0_159, m0_160, m0_163, m0_164, m0_165, m0_168, m0_169, m0_172, m25_21u, m25_22, m25_23, m25_26u, m25_27, m25_30, m25_31, m25_32, m25_33, nb0, nb1, ou_a, Option.toList_some, Option.toList_none, List.nil_append, List.cons_append]
        exact fin 8 cap _ _ _ _ _ (by omega) (by omega) rfl rfl rfl rfl rfl
      · simp [*, m23_0, m23_1, m23_2, m23_5, m23_6, m23_9, m23_10, m23_12, m23_15, m23_17, m23_20, m23_21, m25_21u, m25_22, m25_23, m25_26u, m25_27, m25_30, m25_31, m25_32, m25_33, nb0, nb1, ou_a, Option.toList_some, Option.toList_none, List.nil_append, List.cons_append]
        refine Eq.mpr (own_ctor0 (pre := [((FieldType.array .int, vs.map Value.int) : FieldType × List Value)]) (b := 1) rfl (Nat.le_refl 1)) ?_
        simp [*, m0_0, m0_1, m0_4, m0_5, m0_12, m0_13, m0_20, m0_21, m0_28, m0_29, m0_37, m0_38, m0_46, m0_47, m0_55, m0_56, m0_64, m0_65, m0_73, m0_74, m0_82, m0_83, m0_91, m0_92, m0_99, m0_100u, m0_101, m0_102, m0_103, m0_106, m0_107i, m0_108, m0_109, m0_111, m0_114, m0_116i, m0_117, m0_118u, m0_120, m0_122, m0_124, m0_127, m0_129i, m0_131, m0_133, m0_135, m0_138, m0_140i, m0_142, m0_143, m0_144, m0_147, m0_148, m0_150, m0_153, m0_154, m0_155, m0_158, m0_159, m0_160, m0_163, m0_164, m0_165, m0_168, m0_169, m0_172, m25_21u, m25_22, m25_23, m25_26u, m25_27, m25_30, m25_31, m25_32, m25_33, nb0, nb1, ou_a, Option.toList_some, Option.toList_none, List.nil_append, List.cons_append]
        exact fin al 8 _ _ _ _ _ (by omega) (by omega) rfl rfl rfl rfl rfl
      · simp [*, m23_0, m23_1, m23_2, m23_5, m23_6, m23_9, m23_10, m23_12, m23_15, m23_17, m23_20, m23_21, m25_21u, m25_22, m25_23, m25_26u, m25_27, m25_30, m25_31, m25_32, m25_33, nb0, nb1, ou_a, Option.toList_some, Option.toList_none, List.nil_append, List.cons_append]
        refine Eq.mpr (own_ctor0 (pre := [((FieldType.array .int, vs.map Value.int) : FieldType × List Value)]) (b := 1) rfl (Nat.le_refl 1)) ?_
        simp [*, m0_0, m0_1, m0_4, m0_5, m0_12, m0_13, m0_20, m0_21, m0_28, m0_29, m0_37, m0_38, m0_46, m0_47, m0_55, m0_56, m0_64, m0_65, m0_73, m0_74, m0_82, m0_83, m0_91, m0_92, m0_99, m0_100u, m0_101, m0_102, m0_103, m0_106, m0_107i, m0_108, m0_109, m0_111, m0_114, m0_116i, m0_117, m0_118u, m0_120, m0_122, m0_124, m0_127, m0_129i, m0_131, m0_133, m0_135, m0_138, m0_140i, m0_142, m0_143, m0_144, m0_147, m0_148, m0_150, m0_153, m0_154, m0_155, m0_158, m0_159, m0_160, m0_163, m0_164, m0_165, m0_168, m0_169, m0_172, m25_21u, m25_22, m25_23, m25_26u, m25_27, m25_30, m25_31, m25_32, m25_33, nb0, nb1, ou_a, Option.toList_some, Option.toList_none, List.nil_append, List.cons_append]
        exact fin al 64 _ _ _ _ _ (by omega) (by omega) rfl rfl rfl rfl rfl
      · simp [*, m23_0, m23_1, m23_2, m23_5, m23_6, m23_9, m23_10, m23_12, m23_15, m23_17, m23_20, m23_21, m25_21u, m25_22, m25_23, m25_26u, m25_27, m25_30, m25_31, m25_32, m25_33, nb0, nb1, ou_a, Option.toList_some, Option.toList_none, List.nil_append, List.cons_append]
        refine Eq.mpr (own_ctor0 (pre := [((FieldType.array .int, vs.map Value.int) : FieldType × List Value)]) (b := 1) rfl (Nat.le_refl 1)) ?_
        simp [*, m0_0, m0_1, m0_4, m0_5, m0_12, m0_13, m0_20, m0_21, m0_28, m0_29, m0_37, m0_38, m0_46, m0_47, m0_55, m0_56, m0_64, m0_65, m0_73, m0_74, m0_82, m0_83, m0_91, m0_92, m0_99, m0_100u, m0_101, m0_102, m0_103, m0_106, m0_107i, m0_108, m0_109, m0_111, m0_114, m0_116i, m0_117, m0_118u, m0_120, m0_122, m0_124, m0_127, m0_129i, m0_131, m0_133, m0_135, m0_138, m0_140i, m0_142, m0_143, m0_144, m0_147, m0_148, m0_150, m0_153, m0_154, m0_155, m0_158, m0_159, m0_160, m0_163, m0_164, m0_165, m0_168, m0_169, m0_172, m25_21u, m25_22, m25_23, m25_26u, m25_27, m25_30, m25_31, m25_32, m25_33, nb0, nb1, ou_a, Option.toList_some, Option.toList_none, List.nil_append, List.cons_append]
        exact fin al cap _ _ _ _ _ (by omega) (by omega) rfl rfl rfl rfl rfl
    by_cases z : k1 < 8
    · exact cs 8 (by omega) (Or.inl ⟨lT (c := 8) z (by decide), rfl⟩)
    · have z1 : (nI k1 < 8) = False := lF (c := 8) (by omega) (by omega)
      by_cases y : 64 < k1
      · exact cs 64 (by omega) (Or.inr (Or.inl ⟨z1, lT (a := 64) y (by omega), rfl⟩))
      · exact cs k1 (by omega) (Or.inr (Or.inr ⟨z1, lF (a := 64) (by omega) (by decide), rfl⟩))
  by_cases z : k0 < 2
  · exact go 2 (by omega) (Or.inl ⟨lT (c := 2) z (by decide), rfl⟩)
  · have z1 : (nI k0 < 2) = False := lF (c := 2) (by omega) (by omega)
    by_cases y : 8 < k0
    · exact go 8 (by omega) (Or.inr (Or.inl ⟨z1, lT (a := 8) y (by omega), rfl⟩))
    · exact go k0 (by omega) (Or.inr (Or.inr ⟨z1, lF (a := 8) (by omega) (by decide), rfl⟩))
set_option maxRecDepth 1000000 in
set_option maxHeartbeats 20000000 in
theorem own_law (vs : List Int32) (hlen : vs.length ≤ 260) : W tables_1 dn 1 x code ret 0 (entry [.ref 0] maxLocals) [] [(FieldType.array .int, vs.map Value.int)] (fun v H1 => v = some (.int 1) ∧ H1.length - ([(FieldType.array .int, vs.map Value.int)] : AHeap).length ≤ 32 ∧ tot tables_1 H1 - tot tables_1 [(FieldType.array .int, vs.map Value.int)] ≤ 4224) := by
  show M25 0 [.val (.ref 0), .unset, .unset, .unset, .unset, .unset, .unset, .unset, .unset, .unset, .unset, .unset, .unset, .unset, .unset, .unset, .unset, .unset, .unset, .unset, .unset, .unset, .unset, .unset] [] [(FieldType.array .int, vs.map Value.int)] _
  refine own_k hlen (fun s' A' hq => ⟨rfl, ?_, ?_⟩)
  · rw [put_len]; simp
  · have hq : ∀ i, (A' i).length = (A0 i).length := hq
    rw [put_tot, pad_1]
    simp only [hq, put_len, put_tot, pad_0, tot_nil, List.length_nil, List.length_cons, A0l_0, A0l_1, A0l_2, A0l_3, A0l_4, A0l_5, A0l_6, A0l_7, A0l_8, A0l_9, A0l_10]
    omega
theorem own_dn : ∀ f' l', dnOf dn x = some (f', l') → f' ≤ room_1.frames ∧ l' ≤ room_1.locals := by
  have h : dnOf dn x = some (4, 65) := by decide +kernel
  intro f' l' q; rw [h] at q; cases q; decide
theorem own_pn : Jvm.plainName x.cls = true := by first | (simp [Jvm.plainName, overriddenIn, x]; done) | decide +kernel
theorem own_rm (l : Launch) (Z : State) (a0 : Array Value) (hw : ∀ d ∈ tables_1, d.before a0 Z = true) (vs : List Int32) (hlen : vs.length ≤ 260) (h : Heap) (a : Addr) (cl : Cell) (Ar : Arr Z h a cl .int) (ev : cl.slots = (vs.map Value.int).toArray) :
    MetFree l x (head1 (Jvm.Cond.code x code maxLocals ret :: tables_1) room_1) (fun A U => A = #[.ref a] ∧ Z.Warmed39 U.vm ∧ U.heap = h) (fun _ _ _ _ _ => True) (fun _ U o U' => ∃ w L, o = .returned w ∧ (w = some (.int 1) ∧ Fr h.size L) ∧ FrameEnd U o U' L 32 4224) :=
  law_of (as := [.ref 0]) (mx := maxLocals) (f := room_1.frames) (lc := room_1.locals) hw l tables_1 own_pn (by show 1 ≤ 24; omega) (own_law vs hlen) own_dn (Sim.script tables_1 Ar ev)
set_option maxRecDepth 65536 in
set_option maxHeartbeats 40000000 in
theorem comes_1 {Post : Tables → Env → Array Value → State → Outcome → State → Prop} (hpost : ∀ tb e args s v u, (limb_1_1.after args s (.returned v) u = true ∧ limb_1_2.after args s (.returned v) u = true ∧ True) → FrameEnd s (.returned v) u (Jvm.fieldLocs frame_1_writes args s ++ Jvm.arrayLocs frame_1_arrays args s ++ Jvm.staticLocs frame_1_statics s) 32 4224 → Post tb e args s (.returned v) u) :
    ArmFor flags0 classFile x code maxLocals ret World_1 tables_1 room_1 Calls_1 rest_1 Pre_1 Post := by
  intro l hfl _ _ p e ha hc hk s m args below hf hA hF happ hP
  obtain ⟨hcalls, hrest, hpre⟩ := hP
  obtain ⟨-, -, -, hnamed, -, -, -, hat⟩ := (Spec.applies_iff hf).mp happ
  obtain ⟨hg, hn⟩ := and_e (Cond.before_iff.mp (show (Jvm.Cond.and given_1 narrow_1).before args s = true from hpre))
  obtain ⟨g0, q0⟩ := and_e hg
  obtain ⟨w0, rfl⟩ : ∃ w0 : Value, args = #[w0] := by
    have hs : args.size = 1 := by simpa [Cond.value, given_1] using g0
    obtain ⟨L⟩ := args
    match L, hs with
    | [w0], _ => exact ⟨w0, rfl⟩
  have hw := fun d (hd : d ∈ tables_1) => atoms_spec (ws := Jvm.Cond.code x code maxLocals ret :: tables_1) hat d (List.mem_cons_of_mem _ hd)
  have hfit : Fit s := fun {y c} hc i hi => by
    obtain ⟨ha, rfl⟩ := Array.getElem?_eq_some_iff.mp hc
    have q := List.all_eq_true.mp ((Array.all_eq_true_iff_forall_mem.mp hF) _ (Array.getElem_mem ha)) i (List.mem_range.mpr hi)
    simpa [Array.getElem?_eq_getElem hi] using q
  obtain ⟨n1, n2⟩ := and_e hn
  obtain ⟨a, ea⟩ := arr_v n1
  obtain rfl : w0 = .ref a := Option.some.inj ea
  obtain ⟨cl, Ar⟩ := Arr.start ea n1
  obtain ⟨r1, -⟩ := and_e (Cond.before_iff.mp (show rest_1_c.before _ s = true from hrest))
  obtain ⟨z, ez⟩ := is_v r1
  have hat' := Ar.fin (Vm.Alike.refl _)
  have hsz : cl.slots.size < 2 ^ 31 ∧ z = cl.slots.size.toInt32 := by
    simp only [Term.eval] at ea ez
    simp only [ea, hat', Option.bind_eq_bind, Option.bind_some] at ez
    split at ez
    · rename_i hlt; exact ⟨hlt, by simpa using ez.symm⟩
    · cases ez
  obtain ⟨vs, ev⟩ := script_of hfit Ar hsz.1
  have hlen : vs.length ≤ 260 := by
    have e1 : cl.slots.size = vs.length := by rw [ev]; simp
    have e2 := len_toInt hsz.1
    have n3 := Cond.le_ints (a := .length (.arg 0)) (b := .int 260) ez (Term.int_eval _)
    rw [n2] at n3
    have n4 := of_decide_eq_true (Option.some.inj n3).symm
    rw [Int32.le_iff_toInt_le, hsz.2, e2] at n4
    have e3 : (260 : Int32).toInt = 260 := by decide
    rw [e3] at n4
    omega
  obtain ⟨n, o, h1, h2, h3, _, L, rfl, ⟨rfl, N⟩, hq⟩ := own_rm l s _ hw vs hlen s.heap a cl Ar ev p e ha hc hk s m _ below hf ((Spec.applies_iff_loose hf).mp happ).1 ⟨rfl, State.Warmed39.refl s, rfl⟩ trivial
  exact ⟨n, _, h1, h2, h3, hpost _ _ _ _ _ _ ⟨Cond.after_iff.mpr rfl, Cond.after_iff.mpr (eq_i res_at (Term.int_eval (1)) rfl), trivial⟩ ⟨hq.1, hq.2.1, (hq.2.2.sift fun y hy => Or.inr (N y hy)).mono (by decide) (by decide)⟩⟩
theorem main_1_1 : Claimed_1_1 := comes_1 fun _ _ _ _ _ _ h hF => ⟨h.1, hF⟩
theorem main_1_2 : Claimed_1_2 := comes_1 fun _ _ _ _ _ _ h hF => ⟨h.2.1, hF⟩
end Jvm.Pilot.@@N@@
namespace Jvm.Pilot.@@N@@
open Jvm Jvm.ClassFile Sem Op Lib Jvm.Free Jvm.Stand Jvm.Pilot.@@N@@.Jvm.D
/-! MADE BY PROGRAM (witnessworld.py) out of the Statement's table words and the real class files: 11 classes; the members and pool entries that the words name. The judged class is class 1, her method 5. -/
namespace start1
open Jvm.ClassFile
def u (s : String) : CpInfo := .utf8 (stringToUtf16 s)
/-- a pool by its gaps: so many unusable entries, then the entry; so many at the end -/
def gap : Nat → List CpInfo → List CpInfo
  | 0, r => r
  | n + 1, r => .unusable :: gap n r
def poolList (es : List (Nat × CpInfo)) (last : Nat) : List CpInfo := es.foldr (fun e r => gap e.1 (e.2 :: r)) (gap last [])
def pool (es : List (Nat × CpInfo)) (last : Nat) : Array CpInfo := ⟨poolList es last⟩
def fileOf (pool : Array CpInfo) (this : Nat) (attrs : Array Attribute := #[]) (ms : Array MethodInfo := #[]) (fl : Nat := 33) (sup : Nat := 0) (ifs : Array Nat := #[]) (fds : Array FieldInfo := #[]) : ClassFile where
  minorVersion := 0
  majorVersion := 65
  constantPool := pool
  accessFlags := fl
  thisClass := this
  superClass := sup
  interfaces := ifs
  fields := fds
  methods := ms
  attributes := attrs
def plain (name : String) (sup : Option ClassId) : Class where
  name := name
  kind := .ordinary
  loader := none
  accessFlags := 33
  super := sup
  interfaces := #[]
  cf := none
  fields := #[]
  methods := #[]
  instanceTypes := #[]
  staticTypes := #[]
  resolved := #[]
  callSites := []
  init := .initialized
  statics := none
  mirror := none

def pool0 : Array CpInfo := pool [(5, u "<init>"), (0, u "()V"), (1, .class_ 10), (1, u "java/lang/Object")] 113

def k0c0 : Code := { maxStack := 0, maxLocals := 1, code := object_method_1_code, exceptionTable := #[], attributes := #[] }
def k0m0 : Method := { name := "<init>", desc := "()V", sig := { parameters := [], returnType := none }, accessFlags := 1, code := some k0c0 }
/-- java/lang/Object -/
def k0 : Class := { plain "java/lang/Object" none with
  accessFlags := 33
  interfaces := #[]
  cf := some (fileOf pool0 8 #[] #[{ accessFlags := 1, nameIndex := 5, descriptorIndex := 6, attributes := #[] }] 33 0 #[] #[])
  fields := #[]
  methods := #[k0m0]
  instanceTypes := #[]
  staticTypes := #[]
  resolved := Array.replicate 124 none
  statics := none }

def pool1 : Array CpInfo := pool [(2, .class_ 4), (1, u "java/lang/Object"), (0, u "<init>"), (0, u "()V"), (0, .long 7), (1, .methodref 10 11), (0, .class_ 12), (0, .nameAndType 13 14), (0, u "SuffixAutomatOwnLaw"), (0, u "cell"), (0, u "([II)I"), (0, .methodref 10 16), (0, .nameAndType 17 18), (0, u "mod"), (0, u "(II)I"), (0, .methodref 10 20), (0, .nameAndType 21 22), (0, u "clampAlpha"), (0, u "(I)I"), (0, .class_ 24), (0, u "SuffixAutomat"), (0, .methodref 23 26), (0, .nameAndType 5 27), (0, u "(II)V"), (0, .methodref 23 29), (0, .nameAndType 30 31), (0, u "append"), (0, u "(I)Z"), (0, .methodref 23 33), (0, .nameAndType 34 22), (0, u "symbolAt"), (0, .methodref 23 36), (0, .nameAndType 37 31), (0, u "pushPattern"), (0, .methodref 23 39), (0, .nameAndType 40 6), (0, u "clearPattern"), (0, .methodref 23 42), (0, .nameAndType 43 44), (0, u "length"), (0, u "()I"), (0, .methodref 23 46), (0, .nameAndType 47 6), (0, u "reset"), (0, .methodref 23 49), (0, .nameAndType 50 6), (0, u "clearOther"), (0, .methodref 23 52), (0, .nameAndType 53 31), (0, u "pushOther"), (0, .methodref 23 55), (0, .nameAndType 56 44), (0, u "patternLength"), (0, .methodref 10 58), (0, .nameAndType 59 60), (0, u "get"), (0, u "(JJJJI)I"), (0, .methodref 23 62), (0, .nameAndType 63 44), (0, u "occurrences"), (0, .methodref 23 65), (0, .nameAndType 66 67), (0, u "contains"), (0, u "()Z"), (0, .methodref 23 69), (0, .nameAndType 70 44), (0, u "firstOccurrence"), (3, u "law"), (0, u "([I)Z")] 4

def k1m0 : Method := { name := "<init>", desc := "()V", sig := { parameters := [], returnType := none }, accessFlags := 1, code := none }
def k1c1 : Code := { maxStack := 2, maxLocals := 2, code := method_2_code, exceptionTable := #[], attributes := #[] }
def k1m1 : Method := { name := "cell", desc := "([II)I", sig := { parameters := [(.array .int), .int], returnType := some .int }, accessFlags := 10, code := some k1c1 }
def k1c2 : Code := { maxStack := 2, maxLocals := 3, code := method_3_code, exceptionTable := #[], attributes := #[] }
def k1m2 : Method := { name := "mod", desc := "(II)I", sig := { parameters := [.int, .int], returnType := some .int }, accessFlags := 10, code := some k1c2 }
def k1c3 : Code := { maxStack := 2, maxLocals := 1, code := method_4_code, exceptionTable := #[], attributes := #[] }
def k1m3 : Method := { name := "clampAlpha", desc := "(I)I", sig := { parameters := [.int], returnType := some .int }, accessFlags := 10, code := some k1c3 }
def k1c4 : Code := { maxStack := 5, maxLocals := 11, code := method_5_code, exceptionTable := #[], attributes := #[] }
def k1m4 : Method := { name := "get", desc := "(JJJJI)I", sig := { parameters := [.long, .long, .long, .long, .int], returnType := some .int }, accessFlags := 10, code := some k1c4 }
def k1c5 : Code := { maxStack := 10, maxLocals := 24, code := code, exceptionTable := #[], attributes := #[] }
def k1m5 : Method := { name := "law", desc := "([I)Z", sig := { parameters := [(.array .int)], returnType := some .boolean }, accessFlags := 9, code := some k1c5 }
/-- SuffixAutomatOwnLaw -/
def k1 : Class := { plain "SuffixAutomatOwnLaw" (some 0) with
  accessFlags := 49
  interfaces := #[]
  cf := some (fileOf pool1 10 #[] #[{ accessFlags := 1, nameIndex := 5, descriptorIndex := 6, attributes := #[] }, { accessFlags := 10, nameIndex := 13, descriptorIndex := 14, attributes := #[] }, { accessFlags := 10, nameIndex := 17, descriptorIndex := 18, attributes := #[] }, { accessFlags := 10, nameIndex := 21, descriptorIndex := 22, attributes := #[] }, { accessFlags := 10, nameIndex := 59, descriptorIndex := 60, attributes := #[] }, { accessFlags := 9, nameIndex := 74, descriptorIndex := 75, attributes := #[] }] 49 2 #[] #[])
  fields := #[]
  methods := #[k1m0, k1m1, k1m2, k1m3, k1m4, k1m5]
  instanceTypes := #[]
  staticTypes := #[]
  resolved := Array.replicate 80 none
  statics := none }

def pool2 : Array CpInfo := pool [(1, .methodref 2 3), (0, .class_ 4), (0, .nameAndType 5 6), (0, u "java/lang/Object"), (0, u "<init>"), (0, u "()V"), (0, .fieldref 8 9), (0, .class_ 10), (0, .nameAndType 11 12), (0, u "SuffixAutomat"), (0, u "text"), (0, u "[I"), (0, .fieldref 8 14), (0, .nameAndType 15 12), (0, u "pat"), (0, .fieldref 8 17), (0, .nameAndType 18 12), (0, u "oth"), (0, .fieldref 8 20), (0, .nameAndType 21 12), (0, u "next"), (0, .fieldref 8 23), (0, .nameAndType 24 12), (0, u "link"), (0, .fieldref 8 26), (0, .nameAndType 27 12), (0, u "len"), (0, .fieldref 8 29), (0, .nameAndType 30 12), (0, u "firstEnd"), (0, .fieldref 8 32), (0, .nameAndType 33 34), (0, u "cloned"), (0, u "[Z"), (0, .fieldref 8 36), (0, .nameAndType 37 12), (0, u "cnt"), (0, .fieldref 8 39), (0, .nameAndType 40 12), (0, u "order"), (0, .fieldref 8 42), (0, .nameAndType 43 12), (0, u "bucket"), (0, .fieldref 8 45), (0, .nameAndType 46 47), (0, u "alpha"), (0, u "I"), (0, .fieldref 8 49), (0, .nameAndType 50 47), (0, u "cap"), (0, .fieldref 8 52), (0, .nameAndType 53 47), (0, u "n"), (0, .fieldref 8 55), (0, .nameAndType 56 47), (0, u "m"), (0, .fieldref 8 58), (0, .nameAndType 59 47), (0, u "q"), (0, .methodref 8 61), (0, .nameAndType 62 6), (0, u "resetAutomaton"), (0, .methodref 8 64), (0, .nameAndType 65 66), (0, u "extend"), (0, u "(I)V"), (0, .methodref 8 68), (0, .nameAndType 69 70), (0, u "walkPattern"), (0, u "()I"), (0, .methodref 8 72), (0, .nameAndType 73 6), (0, u "ensureCounts"), (0, .fieldref 8 75), (0, .nameAndType 76 47), (0, u "distinct"), (0, .fieldref 8 78), (0, .nameAndType 79 47), (0, u "size"), (5, u "lcsLen"), (2, u "lcsEnd"), (0, .fieldref 8 90), (0, .nameAndType 91 47), (0, u "last"), (0, .fieldref 8 93), (0, .nameAndType 94 95), (0, u "countsValid"), (0, u "Z"), (0, .methodref 8 97), (0, .nameAndType 98 66), (0, u "clearState"), (0, .methodref 8 100), (0, .nameAndType 101 102), (0, u "addEdges"), (0, u "(III)I"), (0, .methodref 8 104), (0, .nameAndType 105 106), (0, u "splitState"), (0, u "(IIII)V"), (0, .methodref 8 108), (0, .nameAndType 109 6), (0, u "sortByLength"), (0, u "MIN_ALPHABET"), (2, u "MAX_ALPHABET"), (1, u "MIN_CAPACITY"), (0, u "MAX_CAPACITY"), (1, u "PATTERN_CAPACITY"), (0, u "OTHER_CAPACITY"), (0, u "NONE"), (1, u "(II)V"), (3, u "append"), (0, u "(I)Z"), (0, u "length"), (0, u "symbolAt"), (0, u "(I)I"), (0, u "clearPattern"), (0, u "pushPattern"), (0, u "patternLength"), (0, u "contains"), (0, u "()Z"), (0, u "occurrences"), (0, u "firstOccurrence"), (2, u "clearOther"), (0, u "pushOther"), (2, u "reset")] 3

def k2c0 : Code := { maxStack := 2, maxLocals := 5, code := prog_1_method_1_code, exceptionTable := #[], attributes := #[] }
def k2m0 : Method := { name := "<init>", desc := "(II)V", sig := { parameters := [.int, .int], returnType := none }, accessFlags := 1, code := some k2c0 }
def k2c1 : Code := { maxStack := 3, maxLocals := 2, code := prog_1_method_2_code, exceptionTable := #[], attributes := #[] }
def k2m1 : Method := { name := "append", desc := "(I)Z", sig := { parameters := [.int], returnType := some .boolean }, accessFlags := 1, code := some k2c1 }
def k2c2 : Code := { maxStack := 1, maxLocals := 1, code := prog_1_method_3_code, exceptionTable := #[], attributes := #[] }
def k2m2 : Method := { name := "length", desc := "()I", sig := { parameters := [], returnType := some .int }, accessFlags := 1, code := some k2c2 }
def k2c3 : Code := { maxStack := 2, maxLocals := 2, code := prog_1_method_4_code, exceptionTable := #[], attributes := #[] }
def k2m3 : Method := { name := "symbolAt", desc := "(I)I", sig := { parameters := [.int], returnType := some .int }, accessFlags := 1, code := some k2c3 }
def k2c4 : Code := { maxStack := 2, maxLocals := 1, code := prog_1_method_5_code, exceptionTable := #[], attributes := #[] }
def k2m4 : Method := { name := "clearPattern", desc := "()V", sig := { parameters := [], returnType := none }, accessFlags := 1, code := some k2c4 }
def k2c5 : Code := { maxStack := 3, maxLocals := 2, code := prog_1_method_6_code, exceptionTable := #[], attributes := #[] }
def k2m5 : Method := { name := "pushPattern", desc := "(I)Z", sig := { parameters := [.int], returnType := some .boolean }, accessFlags := 1, code := some k2c5 }
def k2c6 : Code := { maxStack := 1, maxLocals := 1, code := prog_1_method_7_code, exceptionTable := #[], attributes := #[] }
def k2m6 : Method := { name := "patternLength", desc := "()I", sig := { parameters := [], returnType := some .int }, accessFlags := 1, code := some k2c6 }
def k2c7 : Code := { maxStack := 2, maxLocals := 1, code := prog_1_method_8_code, exceptionTable := #[], attributes := #[] }
def k2m7 : Method := { name := "contains", desc := "()Z", sig := { parameters := [], returnType := some .boolean }, accessFlags := 1, code := some k2c7 }
def k2c8 : Code := { maxStack := 2, maxLocals := 2, code := prog_1_method_9_code, exceptionTable := #[], attributes := #[] }
def k2m8 : Method := { name := "occurrences", desc := "()I", sig := { parameters := [], returnType := some .int }, accessFlags := 1, code := some k2c8 }
def k2c9 : Code := { maxStack := 2, maxLocals := 2, code := prog_1_method_10_code, exceptionTable := #[], attributes := #[] }
def k2m9 : Method := { name := "firstOccurrence", desc := "()I", sig := { parameters := [], returnType := some .int }, accessFlags := 1, code := some k2c9 }
def k2c10 : Code := { maxStack := 2, maxLocals := 1, code := prog_1_method_13_code, exceptionTable := #[], attributes := #[] }
def k2m10 : Method := { name := "clearOther", desc := "()V", sig := { parameters := [], returnType := none }, accessFlags := 1, code := some k2c10 }
def k2c11 : Code := { maxStack := 3, maxLocals := 2, code := prog_1_method_14_code, exceptionTable := #[], attributes := #[] }
def k2m11 : Method := { name := "pushOther", desc := "(I)Z", sig := { parameters := [.int], returnType := some .boolean }, accessFlags := 1, code := some k2c11 }
def k2c12 : Code := { maxStack := 2, maxLocals := 1, code := prog_1_method_17_code, exceptionTable := #[], attributes := #[] }
def k2m12 : Method := { name := "reset", desc := "()V", sig := { parameters := [], returnType := none }, accessFlags := 1, code := some k2c12 }
def k2c13 : Code := { maxStack := 2, maxLocals := 1, code := prog_1_method_18_code, exceptionTable := #[], attributes := #[] }
def k2m13 : Method := { name := "resetAutomaton", desc := "()V", sig := { parameters := [], returnType := none }, accessFlags := 2, code := some k2c13 }
def k2c14 : Code := { maxStack := 3, maxLocals := 4, code := prog_1_method_19_code, exceptionTable := #[], attributes := #[] }
def k2m14 : Method := { name := "clearState", desc := "(I)V", sig := { parameters := [.int], returnType := none }, accessFlags := 2, code := some k2c14 }
def k2c15 : Code := { maxStack := 6, maxLocals := 5, code := prog_1_method_20_code, exceptionTable := #[], attributes := #[] }
def k2m15 : Method := { name := "extend", desc := "(I)V", sig := { parameters := [.int], returnType := none }, accessFlags := 2, code := some k2c15 }
def k2c16 : Code := { maxStack := 3, maxLocals := 6, code := prog_1_method_21_code, exceptionTable := #[], attributes := #[] }
def k2m16 : Method := { name := "addEdges", desc := "(III)I", sig := { parameters := [.int, .int, .int], returnType := some .int }, accessFlags := 2, code := some k2c16 }
def k2c17 : Code := { maxStack := 5, maxLocals := 10, code := prog_1_method_22_code, exceptionTable := #[], attributes := #[] }
def k2m17 : Method := { name := "splitState", desc := "(IIII)V", sig := { parameters := [.int, .int, .int, .int], returnType := none }, accessFlags := 2, code := some k2c17 }
def k2c18 : Code := { maxStack := 3, maxLocals := 5, code := prog_1_method_23_code, exceptionTable := #[], attributes := #[] }
def k2m18 : Method := { name := "walkPattern", desc := "()I", sig := { parameters := [], returnType := some .int }, accessFlags := 2, code := some k2c18 }
def k2c19 : Code := { maxStack := 5, maxLocals := 4, code := prog_1_method_24_code, exceptionTable := #[], attributes := #[] }
def k2m19 : Method := { name := "ensureCounts", desc := "()V", sig := { parameters := [], returnType := none }, accessFlags := 2, code := some k2c19 }
def k2c20 : Code := { maxStack := 6, maxLocals := 4, code := prog_1_method_25_code, exceptionTable := #[], attributes := #[] }
def k2m20 : Method := { name := "sortByLength", desc := "()V", sig := { parameters := [], returnType := none }, accessFlags := 2, code := some k2c20 }
/-- SuffixAutomat -/
def k2 : Class := { plain "SuffixAutomat" (some 0) with
  accessFlags := 49
  interfaces := #[]
  cf := some (fileOf pool2 8 #[] #[{ accessFlags := 1, nameIndex := 5, descriptorIndex := 122, attributes := #[] }, { accessFlags := 1, nameIndex := 126, descriptorIndex := 127, attributes := #[] }, { accessFlags := 1, nameIndex := 128, descriptorIndex := 70, attributes := #[] }, { accessFlags := 1, nameIndex := 129, descriptorIndex := 130, attributes := #[] }, { accessFlags := 1, nameIndex := 131, descriptorIndex := 6, attributes := #[] }, { accessFlags := 1, nameIndex := 132, descriptorIndex := 127, attributes := #[] }, { accessFlags := 1, nameIndex := 133, descriptorIndex := 70, attributes := #[] }, { accessFlags := 1, nameIndex := 134, descriptorIndex := 135, attributes := #[] }, { accessFlags := 1, nameIndex := 136, descriptorIndex := 70, attributes := #[] }, { accessFlags := 1, nameIndex := 137, descriptorIndex := 70, attributes := #[] }, { accessFlags := 1, nameIndex := 140, descriptorIndex := 6, attributes := #[] }, { accessFlags := 1, nameIndex := 141, descriptorIndex := 127, attributes := #[] }, { accessFlags := 1, nameIndex := 144, descriptorIndex := 6, attributes := #[] }, { accessFlags := 2, nameIndex := 62, descriptorIndex := 6, attributes := #[] }, { accessFlags := 2, nameIndex := 98, descriptorIndex := 66, attributes := #[] }, { accessFlags := 2, nameIndex := 65, descriptorIndex := 66, attributes := #[] }, { accessFlags := 2, nameIndex := 101, descriptorIndex := 102, attributes := #[] }, { accessFlags := 2, nameIndex := 105, descriptorIndex := 106, attributes := #[] }, { accessFlags := 2, nameIndex := 69, descriptorIndex := 70, attributes := #[] }, { accessFlags := 2, nameIndex := 73, descriptorIndex := 6, attributes := #[] }, { accessFlags := 2, nameIndex := 109, descriptorIndex := 6, attributes := #[] }] 49 2 #[] #[{ accessFlags := 25, nameIndex := 110, descriptorIndex := 47, attributes := #[] }, { accessFlags := 25, nameIndex := 113, descriptorIndex := 47, attributes := #[] }, { accessFlags := 25, nameIndex := 115, descriptorIndex := 47, attributes := #[] }, { accessFlags := 25, nameIndex := 116, descriptorIndex := 47, attributes := #[] }, { accessFlags := 25, nameIndex := 118, descriptorIndex := 47, attributes := #[] }, { accessFlags := 25, nameIndex := 119, descriptorIndex := 47, attributes := #[] }, { accessFlags := 25, nameIndex := 120, descriptorIndex := 47, attributes := #[] }, { accessFlags := 2, nameIndex := 46, descriptorIndex := 47, attributes := #[] }, { accessFlags := 2, nameIndex := 50, descriptorIndex := 47, attributes := #[] }, { accessFlags := 18, nameIndex := 11, descriptorIndex := 12, attributes := #[] }, { accessFlags := 18, nameIndex := 15, descriptorIndex := 12, attributes := #[] }, { accessFlags := 18, nameIndex := 18, descriptorIndex := 12, attributes := #[] }, { accessFlags := 2, nameIndex := 53, descriptorIndex := 47, attributes := #[] }, { accessFlags := 2, nameIndex := 56, descriptorIndex := 47, attributes := #[] }, { accessFlags := 2, nameIndex := 59, descriptorIndex := 47, attributes := #[] }, { accessFlags := 18, nameIndex := 21, descriptorIndex := 12, attributes := #[] }, { accessFlags := 18, nameIndex := 24, descriptorIndex := 12, attributes := #[] }, { accessFlags := 18, nameIndex := 27, descriptorIndex := 12, attributes := #[] }, { accessFlags := 18, nameIndex := 30, descriptorIndex := 12, attributes := #[] }, { accessFlags := 18, nameIndex := 33, descriptorIndex := 34, attributes := #[] }, { accessFlags := 18, nameIndex := 37, descriptorIndex := 12, attributes := #[] }, { accessFlags := 18, nameIndex := 40, descriptorIndex := 12, attributes := #[] }, { accessFlags := 18, nameIndex := 43, descriptorIndex := 12, attributes := #[] }, { accessFlags := 2, nameIndex := 79, descriptorIndex := 47, attributes := #[] }, { accessFlags := 2, nameIndex := 91, descriptorIndex := 47, attributes := #[] }, { accessFlags := 2, nameIndex := 76, descriptorIndex := 47, attributes := #[] }, { accessFlags := 2, nameIndex := 94, descriptorIndex := 95, attributes := #[] }, { accessFlags := 2, nameIndex := 85, descriptorIndex := 47, attributes := #[] }, { accessFlags := 2, nameIndex := 88, descriptorIndex := 47, attributes := #[] }])
  fields := #[{ name := "MIN_ALPHABET", type := .int, accessFlags := 25, slot := 0, constantValue := 0 }, { name := "MAX_ALPHABET", type := .int, accessFlags := 25, slot := 1, constantValue := 0 }, { name := "MIN_CAPACITY", type := .int, accessFlags := 25, slot := 2, constantValue := 0 }, { name := "MAX_CAPACITY", type := .int, accessFlags := 25, slot := 3, constantValue := 0 }, { name := "PATTERN_CAPACITY", type := .int, accessFlags := 25, slot := 4, constantValue := 0 }, { name := "OTHER_CAPACITY", type := .int, accessFlags := 25, slot := 5, constantValue := 0 }, { name := "NONE", type := .int, accessFlags := 25, slot := 6, constantValue := 0 }, { name := "alpha", type := .int, accessFlags := 2, slot := 0, constantValue := 0 }, { name := "cap", type := .int, accessFlags := 2, slot := 1, constantValue := 0 }, { name := "text", type := (.array .int), accessFlags := 18, slot := 2, constantValue := 0 }, { name := "pat", type := (.array .int), accessFlags := 18, slot := 3, constantValue := 0 }, { name := "oth", type := (.array .int), accessFlags := 18, slot := 4, constantValue := 0 }, { name := "n", type := .int, accessFlags := 2, slot := 5, constantValue := 0 }, { name := "m", type := .int, accessFlags := 2, slot := 6, constantValue := 0 }, { name := "q", type := .int, accessFlags := 2, slot := 7, constantValue := 0 }, { name := "next", type := (.array .int), accessFlags := 18, slot := 8, constantValue := 0 }, { name := "link", type := (.array .int), accessFlags := 18, slot := 9, constantValue := 0 }, { name := "len", type := (.array .int), accessFlags := 18, slot := 10, constantValue := 0 }, { name := "firstEnd", type := (.array .int), accessFlags := 18, slot := 11, constantValue := 0 }, { name := "cloned", type := (.array .boolean), accessFlags := 18, slot := 12, constantValue := 0 }, { name := "cnt", type := (.array .int), accessFlags := 18, slot := 13, constantValue := 0 }, { name := "order", type := (.array .int), accessFlags := 18, slot := 14, constantValue := 0 }, { name := "bucket", type := (.array .int), accessFlags := 18, slot := 15, constantValue := 0 }, { name := "size", type := .int, accessFlags := 2, slot := 16, constantValue := 0 }, { name := "last", type := .int, accessFlags := 2, slot := 17, constantValue := 0 }, { name := "distinct", type := .int, accessFlags := 2, slot := 18, constantValue := 0 }, { name := "countsValid", type := .boolean, accessFlags := 2, slot := 19, constantValue := 0 }, { name := "lcsLen", type := .int, accessFlags := 2, slot := 20, constantValue := 0 }, { name := "lcsEnd", type := .int, accessFlags := 2, slot := 21, constantValue := 0 }]
  methods := #[k2m0, k2m1, k2m2, k2m3, k2m4, k2m5, k2m6, k2m7, k2m8, k2m9, k2m10, k2m11, k2m12, k2m13, k2m14, k2m15, k2m16, k2m17, k2m18, k2m19, k2m20]
  instanceTypes := #[.int, .int, (.array .int), (.array .int), (.array .int), .int, .int, .int, (.array .int), (.array .int), (.array .int), (.array .int), (.array .boolean), (.array .int), (.array .int), (.array .int), .int, .int, .int, .boolean, .int, .int]
  staticTypes := #[.int, .int, .int, .int, .int, .int, .int]
  resolved := Array.replicate 148 none
  statics := none }

def pool3 : Array CpInfo := pool [(1, u "java/lang/Cloneable"), (0, .class_ 1), (0, u "java/lang/Object"), (0, .class_ 3)] 3

/-- java/lang/Cloneable -/
def k3 : Class := { plain "java/lang/Cloneable" (some 0) with
  accessFlags := 1537
  interfaces := #[]
  cf := some (fileOf pool3 2 #[] #[] 1537 4 #[] #[])
  fields := #[]
  methods := #[]
  instanceTypes := #[]
  staticTypes := #[]
  resolved := Array.replicate 8 none
  statics := none }

def pool4 : Array CpInfo := pool [(1, u "java/io/Serializable"), (0, .class_ 1), (0, u "java/lang/Object"), (0, .class_ 3)] 3

/-- java/io/Serializable -/
def k4 : Class := { plain "java/io/Serializable" (some 0) with
  accessFlags := 1537
  interfaces := #[]
  cf := some (fileOf pool4 2 #[] #[] 1537 4 #[] #[])
  fields := #[]
  methods := #[]
  instanceTypes := #[]
  staticTypes := #[]
  resolved := Array.replicate 8 none
  statics := none }

/-- the primitive boolean -/
def k5 : Class := { plain "boolean" none with kind := .primitive 'Z', accessFlags := 0x411 }
/-- [Z -/
def k6 : Class := { plain "[Z" (some 0) with kind := .array 5 .boolean, interfaces := #[3, 4], accessFlags := 1041 }

/-- the primitive byte -/
def k7 : Class := { plain "byte" none with kind := .primitive 'B', accessFlags := 0x411 }
/-- [B -/
def k8 : Class := { plain "[B" (some 0) with kind := .array 7 .byte, interfaces := #[3, 4], accessFlags := 1041 }

/-- the primitive int -/
def k9 : Class := { plain "int" none with kind := .primitive 'I', accessFlags := 0x411 }
/-- [I -/
def k10 : Class := { plain "[I" (some 0) with kind := .array 9 .int, interfaces := #[3, 4], accessFlags := 1041 }

def heap : Heap := #[{ cls := 10, slots := #[.int 0, .int 1], vm := .none }]
def classes : Array Class := #[k0, k1, k2, k3, k4, k5, k6, k7, k8, k9, k10]
def interned : List (Array UInt16 × Addr) := []
def slotsUsed : Nat := 2
def theMethod : MethodId := ⟨1, 5⟩
def args0 : Array Value := #[.ref 0]
def aboutOver (below : List Frame) : State where
  vm := { classes := classes, interned := interned.toArray }
  heap := heap
  slotsUsed := slotsUsed
  threads := #[{ frames := .invoking theMethod args0 :: below }]
def below0 : List Frame := [.native { method := ⟨0, 0⟩, args := #[] }]
def about1 : State := aboutOver below0
def p0 : Program := .bare "" "" ""
def e0 : Env := launch0.env 0 0 0
theorem w_frames : about1.frames = Frame.invoking theMethod args0 :: below0 := rfl
set_option maxRecDepth 65536 in
theorem w_args : argsFit about1.vm theMethod args0 = true := by decide +kernel
set_option maxRecDepth 65536 in
theorem w_heap : heapFits about1 = true := by decide +kernel
set_option maxRecDepth 65536 in
theorem w_runnable : about1.curStatus? = some .runnable := by decide +kernel
set_option maxRecDepth 65536 in
theorem w_alone : about1.alone = true := by decide +kernel
set_option maxRecDepth 65536 in
theorem w_named : about1.methodNamed? x = some theMethod := by decide +kernel
set_option maxRecDepth 65536 in
theorem w_hears : about1.hears theMethod below0 = true := by decide +kernel
set_option maxRecDepth 65536 in
theorem w_ripe : about1.ripe theMethod args0 below0 = true := by decide +kernel
theorem w_running : about1.status = .running := rfl
set_option maxRecDepth 65536 in
theorem w_room : about1.hasRoom e0.platform room_1 = true :=
  launch0.hasRoom_least _ room_1 (by decide +kernel) (by decide +kernel) (by decide +kernel) (by decide +kernel) (by decide +kernel) (by decide +kernel)
theorem allAtoms_all (ts : List Jvm.Cond) (a : Array Jvm.Value) (st : Jvm.State) : (allAtoms ts).before a st = ts.all (fun c => c.before a st) := by
  induction ts with
  | nil => rfl
  | cons c t ih =>
    show (Jvm.Cond.and c (allAtoms t)).before a st = _
    rw [Jvm.Cond.before_and, ih, List.all_cons]
def words1 : List Jvm.Cond := Jvm.Cond.code x code maxLocals ret :: tables_1
/-- a 'code' word, met by the world's own term for the bytes: nothing is compared byte by byte -/
theorem code_word {y : MethodName} {bytes : ByteArray} {mx : Nat} {rt : Option FieldType} {a : Array Value} {s : State} {m : MethodId} {meth : Method} {c : Code} (h1 : s.methodNamed? y = some m) (h2 : s.vm.method? m = some meth) (h3 : meth.code = some c) (h4 : c.code = bytes)
    (h5 : (c.maxLocals == mx && c.exceptionTable.isEmpty && decide (c.maxStack ≤ mostOperands) && decide (meth.sig.returnType = rt) && !meth.locks && decide (parseMethodDescriptor y.desc = some meth.sig)) = true) : (Jvm.Cond.code y bytes mx rt).before a s = true := by
  simp only [Bool.and_eq_true, beq_iff_eq, Bool.not_eq_true', decide_eq_true_eq] at h5
  obtain ⟨⟨⟨⟨⟨g1, g2⟩, g3⟩, g4⟩, g5⟩, g6⟩ := h5
  simp [Cond.before, Cond.holds, Cond.value, h1, h2, h3, h4, g1, g2, g3, g4, g5, g6]
def isCode : Jvm.Cond → Bool
  | .code _ _ _ _ => true
  | _ => false
theorem all_split {L : List Jvm.Cond} {P : Jvm.Cond → Bool} (h1 : L.all (fun c => isCode c || P c) = true) (h2 : ∀ c ∈ L.filter isCode, P c = true) : L.all P = true := by
  refine List.all_eq_true.mpr fun c hc => ?_
  have h := List.all_eq_true.mp h1 c hc
  rcases Bool.eq_false_or_eq_true (isCode c) with hi | hi
  · exact h2 c (List.mem_filter.mpr ⟨hc, hi⟩)
  · simpa [hi] using h
set_option maxRecDepth 65536 in
theorem w_c0 : (Jvm.Cond.code x code maxLocals ret).before args0 about1 = true := code_word (m := ⟨1, 5⟩) (meth := k1m5) (c := k1c5) (by decide +kernel) rfl rfl rfl (by decide +kernel)
set_option maxRecDepth 65536 in
theorem w_c1 : (Jvm.Cond.code ({ cls := "SuffixAutomatOwnLaw", name := "cell", desc := "([II)I" } : Jvm.MethodName) method_2_code (2 : Nat) (Option.some Jvm.ClassFile.FieldType.int)).before args0 about1 = true := code_word (m := ⟨1, 1⟩) (meth := k1m1) (c := k1c1) (by decide +kernel) rfl rfl rfl (by decide +kernel)
set_option maxRecDepth 65536 in
theorem w_c2 : (Jvm.Cond.code ({ cls := "SuffixAutomatOwnLaw", name := "mod", desc := "(II)I" } : Jvm.MethodName) method_3_code (3 : Nat) (Option.some Jvm.ClassFile.FieldType.int)).before args0 about1 = true := code_word (m := ⟨1, 2⟩) (meth := k1m2) (c := k1c2) (by decide +kernel) rfl rfl rfl (by decide +kernel)
set_option maxRecDepth 65536 in
theorem w_c3 : (Jvm.Cond.code ({ cls := "SuffixAutomatOwnLaw", name := "clampAlpha", desc := "(I)I" } : Jvm.MethodName) method_4_code (1 : Nat) (Option.some Jvm.ClassFile.FieldType.int)).before args0 about1 = true := code_word (m := ⟨1, 3⟩) (meth := k1m3) (c := k1c3) (by decide +kernel) rfl rfl rfl (by decide +kernel)
set_option maxRecDepth 65536 in
theorem w_c4 : (Jvm.Cond.code ({ cls := "SuffixAutomat", name := "<init>", desc := "(II)V" } : Jvm.MethodName) prog_1_method_1_code (5 : Nat) (Option.none : Option Jvm.ClassFile.FieldType)).before args0 about1 = true := code_word (m := ⟨2, 0⟩) (meth := k2m0) (c := k2c0) (by decide +kernel) rfl rfl rfl (by decide +kernel)
set_option maxRecDepth 65536 in
theorem w_c5 : (Jvm.Cond.code ({ cls := "java/lang/Object", name := "<init>", desc := "()V" } : Jvm.MethodName) object_method_1_code (1 : Nat) (Option.none : Option Jvm.ClassFile.FieldType)).before args0 about1 = true := code_word (m := ⟨0, 0⟩) (meth := k0m0) (c := k0c0) (by decide +kernel) rfl rfl rfl (by decide +kernel)
set_option maxRecDepth 65536 in
theorem w_c6 : (Jvm.Cond.code ({ cls := "SuffixAutomat", name := "resetAutomaton", desc := "()V" } : Jvm.MethodName) prog_1_method_18_code (1 : Nat) (Option.none : Option Jvm.ClassFile.FieldType)).before args0 about1 = true := code_word (m := ⟨2, 13⟩) (meth := k2m13) (c := k2c13) (by decide +kernel) rfl rfl rfl (by decide +kernel)
set_option maxRecDepth 65536 in
theorem w_c7 : (Jvm.Cond.code ({ cls := "SuffixAutomat", name := "clearState", desc := "(I)V" } : Jvm.MethodName) prog_1_method_19_code (4 : Nat) (Option.none : Option Jvm.ClassFile.FieldType)).before args0 about1 = true := code_word (m := ⟨2, 14⟩) (meth := k2m14) (c := k2c14) (by decide +kernel) rfl rfl rfl (by decide +kernel)
set_option maxRecDepth 65536 in
theorem w_c8 : (Jvm.Cond.code ({ cls := "SuffixAutomat", name := "length", desc := "()I" } : Jvm.MethodName) prog_1_method_3_code (1 : Nat) (Option.some Jvm.ClassFile.FieldType.int)).before args0 about1 = true := code_word (m := ⟨2, 2⟩) (meth := k2m2) (c := k2c2) (by decide +kernel) rfl rfl rfl (by decide +kernel)
set_option maxRecDepth 65536 in
theorem w_c9 : (Jvm.Cond.code ({ cls := "SuffixAutomat", name := "patternLength", desc := "()I" } : Jvm.MethodName) prog_1_method_7_code (1 : Nat) (Option.some Jvm.ClassFile.FieldType.int)).before args0 about1 = true := code_word (m := ⟨2, 6⟩) (meth := k2m6) (c := k2c6) (by decide +kernel) rfl rfl rfl (by decide +kernel)
set_option maxRecDepth 65536 in
theorem w_c10 : (Jvm.Cond.code ({ cls := "SuffixAutomat", name := "occurrences", desc := "()I" } : Jvm.MethodName) prog_1_method_9_code (2 : Nat) (Option.some Jvm.ClassFile.FieldType.int)).before args0 about1 = true := code_word (m := ⟨2, 8⟩) (meth := k2m8) (c := k2c8) (by decide +kernel) rfl rfl rfl (by decide +kernel)
set_option maxRecDepth 65536 in
theorem w_c11 : (Jvm.Cond.code ({ cls := "SuffixAutomat", name := "contains", desc := "()Z" } : Jvm.MethodName) prog_1_method_8_code (1 : Nat) (Option.some Jvm.ClassFile.FieldType.boolean)).before args0 about1 = true := code_word (m := ⟨2, 7⟩) (meth := k2m7) (c := k2c7) (by decide +kernel) rfl rfl rfl (by decide +kernel)
set_option maxRecDepth 65536 in
theorem w_c12 : (Jvm.Cond.code ({ cls := "SuffixAutomat", name := "firstOccurrence", desc := "()I" } : Jvm.MethodName) prog_1_method_10_code (2 : Nat) (Option.some Jvm.ClassFile.FieldType.int)).before args0 about1 = true := code_word (m := ⟨2, 9⟩) (meth := k2m9) (c := k2c9) (by decide +kernel) rfl rfl rfl (by decide +kernel)
set_option maxRecDepth 65536 in
theorem w_c13 : (Jvm.Cond.code ({ cls := "SuffixAutomat", name := "append", desc := "(I)Z" } : Jvm.MethodName) prog_1_method_2_code (2 : Nat) (Option.some Jvm.ClassFile.FieldType.boolean)).before args0 about1 = true := code_word (m := ⟨2, 1⟩) (meth := k2m1) (c := k2c1) (by decide +kernel) rfl rfl rfl (by decide +kernel)
set_option maxRecDepth 65536 in
theorem w_c14 : (Jvm.Cond.code ({ cls := "SuffixAutomat", name := "extend", desc := "(I)V" } : Jvm.MethodName) prog_1_method_20_code (5 : Nat) (Option.none : Option Jvm.ClassFile.FieldType)).before args0 about1 = true := code_word (m := ⟨2, 15⟩) (meth := k2m15) (c := k2c15) (by decide +kernel) rfl rfl rfl (by decide +kernel)
set_option maxRecDepth 65536 in
theorem w_c15 : (Jvm.Cond.code ({ cls := "SuffixAutomat", name := "addEdges", desc := "(III)I" } : Jvm.MethodName) prog_1_method_21_code (6 : Nat) (Option.some Jvm.ClassFile.FieldType.int)).before args0 about1 = true := code_word (m := ⟨2, 16⟩) (meth := k2m16) (c := k2c16) (by decide +kernel) rfl rfl rfl (by decide +kernel)
set_option maxRecDepth 65536 in
theorem w_c16 : (Jvm.Cond.code ({ cls := "SuffixAutomat", name := "pushPattern", desc := "(I)Z" } : Jvm.MethodName) prog_1_method_6_code (2 : Nat) (Option.some Jvm.ClassFile.FieldType.boolean)).before args0 about1 = true := code_word (m := ⟨2, 5⟩) (meth := k2m5) (c := k2c5) (by decide +kernel) rfl rfl rfl (by decide +kernel)
set_option maxRecDepth 65536 in
theorem w_c17 : (Jvm.Cond.code ({ cls := "SuffixAutomat", name := "symbolAt", desc := "(I)I" } : Jvm.MethodName) prog_1_method_4_code (2 : Nat) (Option.some Jvm.ClassFile.FieldType.int)).before args0 about1 = true := code_word (m := ⟨2, 3⟩) (meth := k2m3) (c := k2c3) (by decide +kernel) rfl rfl rfl (by decide +kernel)
set_option maxRecDepth 65536 in
theorem w_c18 : (Jvm.Cond.code ({ cls := "SuffixAutomatOwnLaw", name := "get", desc := "(JJJJI)I" } : Jvm.MethodName) method_5_code (11 : Nat) (Option.some Jvm.ClassFile.FieldType.int)).before args0 about1 = true := code_word (m := ⟨1, 4⟩) (meth := k1m4) (c := k1c4) (by decide +kernel) rfl rfl rfl (by decide +kernel)
set_option maxRecDepth 65536 in
theorem w_c19 : (Jvm.Cond.code ({ cls := "SuffixAutomat", name := "walkPattern", desc := "()I" } : Jvm.MethodName) prog_1_method_23_code (5 : Nat) (Option.some Jvm.ClassFile.FieldType.int)).before args0 about1 = true := code_word (m := ⟨2, 18⟩) (meth := k2m18) (c := k2c18) (by decide +kernel) rfl rfl rfl (by decide +kernel)
set_option maxRecDepth 65536 in
theorem w_c20 : (Jvm.Cond.code ({ cls := "SuffixAutomat", name := "ensureCounts", desc := "()V" } : Jvm.MethodName) prog_1_method_24_code (4 : Nat) (Option.none : Option Jvm.ClassFile.FieldType)).before args0 about1 = true := code_word (m := ⟨2, 19⟩) (meth := k2m19) (c := k2c19) (by decide +kernel) rfl rfl rfl (by decide +kernel)
set_option maxRecDepth 65536 in
theorem w_c21 : (Jvm.Cond.code ({ cls := "SuffixAutomat", name := "sortByLength", desc := "()V" } : Jvm.MethodName) prog_1_method_25_code (4 : Nat) (Option.none : Option Jvm.ClassFile.FieldType)).before args0 about1 = true := code_word (m := ⟨2, 20⟩) (meth := k2m20) (c := k2c20) (by decide +kernel) rfl rfl rfl (by decide +kernel)
set_option maxRecDepth 65536 in
theorem w_c22 : (Jvm.Cond.code ({ cls := "SuffixAutomat", name := "clearOther", desc := "()V" } : Jvm.MethodName) prog_1_method_13_code (1 : Nat) (Option.none : Option Jvm.ClassFile.FieldType)).before args0 about1 = true := code_word (m := ⟨2, 10⟩) (meth := k2m10) (c := k2c10) (by decide +kernel) rfl rfl rfl (by decide +kernel)
set_option maxRecDepth 65536 in
theorem w_c23 : (Jvm.Cond.code ({ cls := "SuffixAutomat", name := "pushOther", desc := "(I)Z" } : Jvm.MethodName) prog_1_method_14_code (2 : Nat) (Option.some Jvm.ClassFile.FieldType.boolean)).before args0 about1 = true := code_word (m := ⟨2, 11⟩) (meth := k2m11) (c := k2c11) (by decide +kernel) rfl rfl rfl (by decide +kernel)
set_option maxRecDepth 65536 in
theorem w_c24 : (Jvm.Cond.code ({ cls := "SuffixAutomat", name := "clearPattern", desc := "()V" } : Jvm.MethodName) prog_1_method_5_code (1 : Nat) (Option.none : Option Jvm.ClassFile.FieldType)).before args0 about1 = true := code_word (m := ⟨2, 4⟩) (meth := k2m4) (c := k2c4) (by decide +kernel) rfl rfl rfl (by decide +kernel)
set_option maxRecDepth 65536 in
theorem w_c25 : (Jvm.Cond.code ({ cls := "SuffixAutomat", name := "splitState", desc := "(IIII)V" } : Jvm.MethodName) prog_1_method_22_code (10 : Nat) (Option.none : Option Jvm.ClassFile.FieldType)).before args0 about1 = true := code_word (m := ⟨2, 17⟩) (meth := k2m17) (c := k2c17) (by decide +kernel) rfl rfl rfl (by decide +kernel)
set_option maxRecDepth 65536 in
theorem w_c26 : (Jvm.Cond.code ({ cls := "SuffixAutomat", name := "reset", desc := "()V" } : Jvm.MethodName) prog_1_method_17_code (1 : Nat) (Option.none : Option Jvm.ClassFile.FieldType)).before args0 about1 = true := code_word (m := ⟨2, 12⟩) (meth := k2m12) (c := k2c12) (by decide +kernel) rfl rfl rfl (by decide +kernel)
def codes1 : List Jvm.Cond := [Jvm.Cond.code x code maxLocals ret, Jvm.Cond.code ({ cls := "SuffixAutomatOwnLaw", name := "cell", desc := "([II)I" } : Jvm.MethodName) method_2_code (2 : Nat) (Option.some Jvm.ClassFile.FieldType.int), Jvm.Cond.code ({ cls := "SuffixAutomatOwnLaw", name := "mod", desc := "(II)I" } : Jvm.MethodName) method_3_code (3 : Nat) (Option.some Jvm.ClassFile.FieldType.int), Jvm.Cond.code ({ cls := "SuffixAutomatOwnLaw", name := "clampAlpha", desc := "(I)I" } : Jvm.MethodName) method_4_code (1 : Nat) (Option.some Jvm.ClassFile.FieldType.int), Jvm.Cond.code ({ cls := "SuffixAutomat", name := "<init>", desc := "(II)V" } : Jvm.MethodName) prog_1_method_1_code (5 : Nat) (Option.none : Option Jvm.ClassFile.FieldType), Jvm.Cond.code ({ cls := "java/lang/Object", name := "<init>", desc := "()V" } : Jvm.MethodName) object_method_1_code (1 : Nat) (Option.none : Option Jvm.ClassFile.FieldType), Jvm.Cond.code ({ cls := "SuffixAutomat", name := "resetAutomaton", desc := "()V" } : Jvm.MethodName) prog_1_method_18_code (1 : Nat) (Option.none : Option Jvm.ClassFile.FieldType), Jvm.Cond.code ({ cls := "SuffixAutomat", name := "clearState", desc := "(I)V" } : Jvm.MethodName) prog_1_method_19_code (4 : Nat) (Option.none : Option Jvm.ClassFile.FieldType), Jvm.Cond.code ({ cls := "SuffixAutomat", name := "length", desc := "()I" } : Jvm.MethodName) prog_1_method_3_code (1 : Nat) (Option.some Jvm.ClassFile.FieldType.int), Jvm.Cond.code ({ cls := "SuffixAutomat", name := "patternLength", desc := "()I" } : Jvm.MethodName) prog_1_method_7_code (1 : Nat) (Option.some Jvm.ClassFile.FieldType.int), Jvm.Cond.code ({ cls := "SuffixAutomat", name := "occurrences", desc := "()I" } : Jvm.MethodName) prog_1_method_9_code (2 : Nat) (Option.some Jvm.ClassFile.FieldType.int), Jvm.Cond.code ({ cls := "SuffixAutomat", name := "contains", desc := "()Z" } : Jvm.MethodName) prog_1_method_8_code (1 : Nat) (Option.some Jvm.ClassFile.FieldType.boolean), Jvm.Cond.code ({ cls := "SuffixAutomat", name := "firstOccurrence", desc := "()I" } : Jvm.MethodName) prog_1_method_10_code (2 : Nat) (Option.some Jvm.ClassFile.FieldType.int), Jvm.Cond.code ({ cls := "SuffixAutomat", name := "append", desc := "(I)Z" } : Jvm.MethodName) prog_1_method_2_code (2 : Nat) (Option.some Jvm.ClassFile.FieldType.boolean), Jvm.Cond.code ({ cls := "SuffixAutomat", name := "extend", desc := "(I)V" } : Jvm.MethodName) prog_1_method_20_code (5 : Nat) (Option.none : Option Jvm.ClassFile.FieldType), Jvm.Cond.code ({ cls := "SuffixAutomat", name := "addEdges", desc := "(III)I" } : Jvm.MethodName) prog_1_method_21_code (6 : Nat) (Option.some Jvm.ClassFile.FieldType.int), Jvm.Cond.code ({ cls := "SuffixAutomat", name := "pushPattern", desc := "(I)Z" } : Jvm.MethodName) prog_1_method_6_code (2 : Nat) (Option.some Jvm.ClassFile.FieldType.boolean), Jvm.Cond.code ({ cls := "SuffixAutomat", name := "symbolAt", desc := "(I)I" } : Jvm.MethodName) prog_1_method_4_code (2 : Nat) (Option.some Jvm.ClassFile.FieldType.int), Jvm.Cond.code ({ cls := "SuffixAutomatOwnLaw", name := "get", desc := "(JJJJI)I" } : Jvm.MethodName) method_5_code (11 : Nat) (Option.some Jvm.ClassFile.FieldType.int), Jvm.Cond.code ({ cls := "SuffixAutomat", name := "walkPattern", desc := "()I" } : Jvm.MethodName) prog_1_method_23_code (5 : Nat) (Option.some Jvm.ClassFile.FieldType.int), Jvm.Cond.code ({ cls := "SuffixAutomat", name := "ensureCounts", desc := "()V" } : Jvm.MethodName) prog_1_method_24_code (4 : Nat) (Option.none : Option Jvm.ClassFile.FieldType), Jvm.Cond.code ({ cls := "SuffixAutomat", name := "sortByLength", desc := "()V" } : Jvm.MethodName) prog_1_method_25_code (4 : Nat) (Option.none : Option Jvm.ClassFile.FieldType), Jvm.Cond.code ({ cls := "SuffixAutomat", name := "clearOther", desc := "()V" } : Jvm.MethodName) prog_1_method_13_code (1 : Nat) (Option.none : Option Jvm.ClassFile.FieldType), Jvm.Cond.code ({ cls := "SuffixAutomat", name := "pushOther", desc := "(I)Z" } : Jvm.MethodName) prog_1_method_14_code (2 : Nat) (Option.some Jvm.ClassFile.FieldType.boolean), Jvm.Cond.code ({ cls := "SuffixAutomat", name := "clearPattern", desc := "()V" } : Jvm.MethodName) prog_1_method_5_code (1 : Nat) (Option.none : Option Jvm.ClassFile.FieldType), Jvm.Cond.code ({ cls := "SuffixAutomat", name := "splitState", desc := "(IIII)V" } : Jvm.MethodName) prog_1_method_22_code (10 : Nat) (Option.none : Option Jvm.ClassFile.FieldType), Jvm.Cond.code ({ cls := "SuffixAutomat", name := "reset", desc := "()V" } : Jvm.MethodName) prog_1_method_17_code (1 : Nat) (Option.none : Option Jvm.ClassFile.FieldType)]
set_option maxRecDepth 65536 in
theorem codes_eq : words1.filter isCode = codes1 := rfl
theorem w_codes : ∀ c ∈ words1.filter isCode, c.before args0 about1 = true := by
  rw [codes_eq]
  intro c hc
  simp only [codes1, List.mem_cons, List.not_mem_nil, or_false] at hc
  rcases hc with rfl | rfl | rfl | rfl | rfl | rfl | rfl | rfl | rfl | rfl | rfl | rfl | rfl | rfl | rfl | rfl | rfl | rfl | rfl | rfl | rfl | rfl | rfl | rfl | rfl | rfl | rfl
  · exact w_c0
  · exact w_c1
  · exact w_c2
  · exact w_c3
  · exact w_c4
  · exact w_c5
  · exact w_c6
  · exact w_c7
  · exact w_c8
  · exact w_c9
  · exact w_c10
  · exact w_c11
  · exact w_c12
  · exact w_c13
  · exact w_c14
  · exact w_c15
  · exact w_c16
  · exact w_c17
  · exact w_c18
  · exact w_c19
  · exact w_c20
  · exact w_c21
  · exact w_c22
  · exact w_c23
  · exact w_c24
  · exact w_c25
  · exact w_c26
set_option maxRecDepth 65536 in
theorem w_t1 : (words1.take 24).all (fun c => isCode c || c.before args0 about1) = true := by decide +kernel
set_option maxRecDepth 65536 in
theorem w_t2 : ((words1.drop 24).take 24).all (fun c => isCode c || c.before args0 about1) = true := by decide +kernel
set_option maxRecDepth 65536 in
theorem w_t3 : (((words1.drop 24).drop 24).take 24).all (fun c => isCode c || c.before args0 about1) = true := by decide +kernel
set_option maxRecDepth 65536 in
theorem w_t4 : ((((words1.drop 24).drop 24).drop 24).take 24).all (fun c => isCode c || c.before args0 about1) = true := by decide +kernel
set_option maxRecDepth 65536 in
theorem w_t5 : (((((words1.drop 24).drop 24).drop 24).drop 24).take 24).all (fun c => isCode c || c.before args0 about1) = true := by decide +kernel
set_option maxRecDepth 65536 in
theorem w_t6 : ((((((words1.drop 24).drop 24).drop 24).drop 24).drop 24).take 24).all (fun c => isCode c || c.before args0 about1) = true := by decide +kernel
set_option maxRecDepth 65536 in
theorem w_t7 : ((((((words1.drop 24).drop 24).drop 24).drop 24).drop 24).drop 24).all (fun c => isCode c || c.before args0 about1) = true := by decide +kernel
theorem w_tables : (allAtoms (Jvm.Cond.code x code maxLocals ret :: tables_1)).before args0 about1 = true := by
  rw [allAtoms_all]
  show words1.all (fun c => c.before args0 about1) = true
  refine all_split ?_ w_codes
  rw [← List.take_append_drop 24 words1, List.all_append, w_t1, ← List.take_append_drop 24 (words1.drop 24), List.all_append, w_t2, ← List.take_append_drop 24 ((words1.drop 24).drop 24), List.all_append, w_t3, ← List.take_append_drop 24 (((words1.drop 24).drop 24).drop 24), List.all_append, w_t4, ← List.take_append_drop 24 ((((words1.drop 24).drop 24).drop 24).drop 24), List.all_append, w_t5, ← List.take_append_drop 24 (((((words1.drop 24).drop 24).drop 24).drop 24).drop 24), List.all_append, w_t6, w_t7]
  rfl
set_option maxRecDepth 65536 in
theorem w_rest : rest_1_c.before args0 about1 = true := by decide +kernel
set_option maxRecDepth 65536 in
theorem w_case : (Jvm.Cond.and given_1 narrow_1).before args0 about1 = true := by decide +kernel
theorem w_applies : (headSpec (Jvm.Cond.code x code maxLocals ret :: tables_1) room_1).applies x e0.platform about1 = true :=
  (Spec.applies_iff w_frames).mpr ⟨w_running, w_runnable, w_alone, w_named, w_hears, w_ripe, w_room, w_tables⟩
theorem atStart : AtStart classFile x code maxLocals ret World_1 tables_1 room_1 Calls_1 rest_1 Pre_1 launch0 p0 e0 about1 theMethod args0 below0 :=
  ⟨lists_1, trivial, launch0.admits_env _ _ _, launch0.least_env, fairChoices_fair.cas, fairChoices_fair.clock, w_frames, w_args, w_heap, w_applies, trivial, w_rest, w_case⟩
end start1
theorem witness_1 : WitnessClaimed_1 := ⟨start1.p0, start1.e0, start1.about1, start1.theMethod, start1.args0, start1.below0, start1.atStart⟩
end Jvm.Pilot.@@N@@
