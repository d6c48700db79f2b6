import JvmDerived
import JvmDerived.Pilot.@@N@@Statement
import JvmDerived.Pilot.@@N@@Code
set_option linter.unusedVariables false
set_option linter.unusedSimpArgs false
namespace Jvm.Own
open Sem ClassFile Op Lib Jvm.Stand Jvm.Free Jvm.LawKit Jvm.RoadKit
/-! OWN 1: words of the sheet, resolved -/
abbrev AHeap := List (FieldType × List Value)
abbrev Ws := List Jvm.Cond
def rFld (ws : Ws) (own : String) (i : Nat) : Option (String × String × String) :=
  ws.findSome? fun d => match d with
    | .fieldLink o j C n t => if o = own ∧ j = i then some (C, n, t) else none
    | _ => none
def rCls (ws : Ws) (own : String) (i : Nat) : Option String :=
  ws.findSome? fun d => match d with
    | .classLink o j C => if o = own ∧ j = i then some C else none
    | _ => none
def rMth (ws : Ws) (own : String) (i : Nat) : Option MethodName :=
  ws.findSome? fun d => match d with
    | .methodLink o j y => if o = own ∧ j = i then some y else none
    | _ => none
def rCon (ws : Ws) (own : String) (i : Nat) : Option Int32 :=
  ws.findSome? fun d => match d with
    | .constant o j v => if o = own ∧ j = i then some v else none
    | _ => none
def rConL (ws : Ws) (own : String) (i : Nat) : Option Int64 :=
  ws.findSome? fun d => match d with
    | .constantLong o j v => if o = own ∧ j = i then some v else none
    | _ => none
def rInst (ws : Ws) (C : String) : Option Nat :=
  ws.findSome? fun d => match d with
    | .instantiable c n => if c = C then some n else none
    | _ => none
def rCode (ws : Ws) (y : MethodName) : Option (ByteArray × Nat × Option FieldType) :=
  ws.findSome? fun d => match d with
    | .code z b m r => if z = y then some (b, m, r) else none
    | _ => none
def hasInit (ws : Ws) (C : String) : Bool := ws.any fun d => match d with | .initialized c => c == C | _ => false
def hasArr (ws : Ws) (t : FieldType) : Bool := ws.any fun d => match d with | .arrayClass c => decide (c = t) | _ => false
def hasStat (ws : Ws) (y : MethodName) : Bool := ws.any fun d => match d with | .static z => decide (z = y) | _ => false
def hasIM (ws : Ws) (y : MethodName) : Bool := ws.any fun d => match d with | .instanceMethod z => decide (z = y) | _ => false
def hasPriv (ws : Ws) (y : MethodName) : Bool := ws.any fun d => match d with | .privateMethod z => decide (z = y) | _ => false
def hasDecl (ws : Ws) (y : MethodName) : Bool := ws.any fun d => match d with | .declares z => decide (z = y) | _ => false
def hasSel (ws : Ws) (y : MethodName) : Bool := ws.any fun d => match d with | .selects c z z' => decide (c = y.cls ∧ z = y ∧ z' = y) | _ => false
def hasLays (ws : Ws) (C n t : String) : Bool := ws.any fun d => match d with | .lays c o n' t' => decide (c = C ∧ o = C ∧ n' = n ∧ t' = t) | _ => false
def hasLaysF (ws : Ws) (C n t : String) : Bool := ws.any fun d => match d with | .laysFinal c o n' t' => decide (c = C ∧ o = C ∧ n' = n ∧ t' = t) | _ => false
def layE (C : String) : Jvm.Cond → Option (String × String)
  | .lays c o n t => if c = C ∧ o = C ∧ (parseFieldDescriptor t).isSome = true then some (n, t) else none
  | .laysFinal c o n t => if c = C ∧ o = C ∧ (parseFieldDescriptor t).isSome = true then some (n, t) else none
  | _ => none
def olay (ws : Ws) (C : String) : List (String × String) := ws.filterMap (layE C)
def idx (x : String × String) : List (String × String) → Option Nat
  | [] => none
  | y :: r => if y = x then some 0 else (idx x r).map (· + 1)
def fidx (ws : Ws) (C n t : String) : Option Nat := idx (n, t) (olay ws C)
def gfR (ws : Ws) (own : String) (i : Nat) : Option (String × Nat) :=
  match rFld ws own i with
  | some (C, n, t) => (fidx ws C n t).map fun j => (C, j)
  | none => none
def pfR (ws : Ws) (own mn : String) (i : Nat) : Option (String × Nat × FieldType) :=
  match rFld ws own i with
  | some (C, n, t) =>
    match fidx ws C n t, parseFieldDescriptor t with
    | some j, some ty => if (hasLays ws C n t || (hasLaysF ws C n t && own == C && mn == "<init>")) && (rInst ws C).isSome && (olay ws C).all (fun q => q.1 != n || q.2 == t) then some (C, j, ty) else none
    | _, _ => none
  | none => none
section Res
variable {ws : Ws} {own C n t : String} {i : Nat} {y : MethodName}
theorem rFld_mem (h : rFld ws own i = some (C, n, t)) : Jvm.Cond.fieldLink own i C n t ∈ ws := by
  obtain ⟨d, hd, e⟩ := List.exists_of_findSome?_eq_some h
  split at e
  · split at e
    · rename_i q; obtain ⟨rfl, rfl⟩ := q; cases e; exact hd
    · cases e
  · cases e
theorem rCls_mem (h : rCls ws own i = some C) : Jvm.Cond.classLink own i C ∈ ws := by
  obtain ⟨d, hd, e⟩ := List.exists_of_findSome?_eq_some h
  split at e
  · split at e
    · rename_i q; obtain ⟨rfl, rfl⟩ := q; cases e; exact hd
    · cases e
  · cases e
theorem rMth_mem (h : rMth ws own i = some y) : Jvm.Cond.methodLink own i y ∈ ws := by
  obtain ⟨d, hd, e⟩ := List.exists_of_findSome?_eq_some h
  split at e
  · split at e
    · rename_i q; obtain ⟨rfl, rfl⟩ := q; cases e; exact hd
    · cases e
  · cases e
theorem rCon_mem {v : Int32} (h : rCon ws own i = some v) : Jvm.Cond.constant own i v ∈ ws := by
  obtain ⟨d, hd, e⟩ := List.exists_of_findSome?_eq_some h
  split at e
  · split at e
    · rename_i q; obtain ⟨rfl, rfl⟩ := q; cases e; exact hd
    · cases e
  · cases e
theorem rConL_mem {v : Int64} (h : rConL ws own i = some v) : Jvm.Cond.constantLong own i v ∈ ws := by
  obtain ⟨d, hd, e⟩ := List.exists_of_findSome?_eq_some h
  split at e
  · split at e
    · rename_i q; obtain ⟨rfl, rfl⟩ := q; cases e; exact hd
    · cases e
  · cases e
theorem rInst_mem {k : Nat} (h : rInst ws C = some k) : Jvm.Cond.instantiable C k ∈ ws := by
  obtain ⟨d, hd, e⟩ := List.exists_of_findSome?_eq_some h
  split at e
  · split at e
    · rename_i q; subst q; cases e; exact hd
    · cases e
  · cases e
theorem rCode_mem {b : ByteArray} {k : Nat} {r : Option FieldType} (h : rCode ws y = some (b, k, r)) : Jvm.Cond.code y b k r ∈ ws := by
  obtain ⟨d, hd, e⟩ := List.exists_of_findSome?_eq_some h
  split at e
  · split at e
    · rename_i q; subst q; cases e; exact hd
    · cases e
  · cases e
theorem hasInit_mem (h : hasInit ws C = true) : Jvm.Cond.initialized C ∈ ws := by
  obtain ⟨d, hd, e⟩ := List.any_eq_true.mp h
  split at e
  · rw [beq_iff_eq] at e; subst e; exact hd
  · cases e
theorem hasArr_mem {ty : FieldType} (h : hasArr ws ty = true) : Jvm.Cond.arrayClass ty ∈ ws := by
  obtain ⟨d, hd, e⟩ := List.any_eq_true.mp h
  split at e
  · have e := of_decide_eq_true e; subst e; exact hd
  · cases e
theorem hasStat_mem (h : hasStat ws y = true) : Jvm.Cond.static y ∈ ws := by
  obtain ⟨d, hd, e⟩ := List.any_eq_true.mp h
  split at e
  · have e := of_decide_eq_true e; subst e; exact hd
  · cases e
theorem hasIM_mem (h : hasIM ws y = true) : Jvm.Cond.instanceMethod y ∈ ws := by
  obtain ⟨d, hd, e⟩ := List.any_eq_true.mp h
  split at e
  · have e := of_decide_eq_true e; subst e; exact hd
  · cases e
theorem hasPriv_mem (h : hasPriv ws y = true) : Jvm.Cond.privateMethod y ∈ ws := by
  obtain ⟨d, hd, e⟩ := List.any_eq_true.mp h
  split at e
  · have e := of_decide_eq_true e; subst e; exact hd
  · cases e
theorem hasDecl_mem (h : hasDecl ws y = true) : Jvm.Cond.declares y ∈ ws := by
  obtain ⟨d, hd, e⟩ := List.any_eq_true.mp h
  split at e
  · have e := of_decide_eq_true e; subst e; exact hd
  · cases e
theorem hasSel_mem (h : hasSel ws y = true) : Jvm.Cond.selects y.cls y y ∈ ws := by
  obtain ⟨d, hd, e⟩ := List.any_eq_true.mp h
  split at e
  · obtain ⟨rfl, rfl, rfl⟩ := of_decide_eq_true e; exact hd
  · cases e
theorem hasLays_mem (h : hasLays ws C n t = true) : Jvm.Cond.lays C C n t ∈ ws := by
  obtain ⟨d, hd, e⟩ := List.any_eq_true.mp h
  split at e
  · obtain ⟨rfl, rfl, rfl, rfl⟩ := of_decide_eq_true e; exact hd
  · cases e
theorem hasLaysF_mem (h : hasLaysF ws C n t = true) : Jvm.Cond.laysFinal C C n t ∈ ws := by
  obtain ⟨d, hd, e⟩ := List.any_eq_true.mp h
  split at e
  · obtain ⟨rfl, rfl, rfl, rfl⟩ := of_decide_eq_true e; exact hd
  · cases e
theorem lay_mem (h : (n, t) ∈ olay ws C) : (Jvm.Cond.lays C C n t ∈ ws ∨ Jvm.Cond.laysFinal C C n t ∈ ws) ∧ ∃ ty, parseFieldDescriptor t = some ty := by
  obtain ⟨d, hd, e⟩ := List.mem_filterMap.mp h
  unfold layE at e
  split at e
  · split at e
    · rename_i q; obtain ⟨rfl, rfl, q⟩ := q; cases e; exact ⟨Or.inl hd, Option.isSome_iff_exists.mp q⟩
    · cases e
  · split at e
    · rename_i q; obtain ⟨rfl, rfl, q⟩ := q; cases e; exact ⟨Or.inr hd, Option.isSome_iff_exists.mp q⟩
    · cases e
  · cases e
theorem idx_get {x : String × String} : ∀ {l : List (String × String)} {j : Nat}, idx x l = some j → l[j]? = some x
  | [], _, h => by cases h
  | y :: r, j, h => by
    unfold idx at h
    split at h
    · rename_i q; cases h; simp [q]
    · obtain ⟨j', h', rfl⟩ := Option.map_eq_some_iff.mp h
      simpa using idx_get h'
theorem fidx_mem {j : Nat} (h : fidx ws C n t = some j) : (n, t) ∈ olay ws C := List.mem_of_getElem? (idx_get h)
theorem fidx_inj {n' t' : String} {j : Nat} (h : fidx ws C n t = some j) (h' : fidx ws C n' t' = some j) : n = n' ∧ t = t' := by
  have := (idx_get h).symm.trans (idx_get h')
  simpa using this
theorem gfR_some {j : Nat} (h : gfR ws own i = some (C, j)) : ∃ n t, rFld ws own i = some (C, n, t) ∧ fidx ws C n t = some j := by
  unfold gfR at h
  split at h
  · rename_i C' n' t' q
    obtain ⟨j', h', e⟩ := Option.map_eq_some_iff.mp h
    cases e; exact ⟨_, _, q, h'⟩
  · cases h
theorem pfR_some {mn : String} {j : Nat} {ty : FieldType} (h : pfR ws own mn i = some (C, j, ty)) : ∃ n t, rFld ws own i = some (C, n, t) ∧ fidx ws C n t = some j ∧ parseFieldDescriptor t = some ty ∧
    (Jvm.Cond.lays C C n t ∈ ws ∨ (Jvm.Cond.laysFinal C C n t ∈ ws ∧ own = C ∧ mn = "<init>")) ∧ (∃ k, Jvm.Cond.instantiable C k ∈ ws) ∧ ∀ n' t', (n', t') ∈ olay ws C → n' ≠ n ∨ t' = t := by
  unfold pfR at h
  split at h
  · rename_i C' n' t' q
    split at h
    · rename_i j' ty' q1 q2
      split at h
      · rename_i g
        cases h
        simp only [Bool.and_eq_true, Bool.or_eq_true, beq_iff_eq, List.all_eq_true, bne_iff_ne, ne_eq] at g
        obtain ⟨⟨g1, g2⟩, g3⟩ := g
        obtain ⟨k, hk⟩ := Option.isSome_iff_exists.mp g2
        refine ⟨n', t', q, q1, q2, ?_, ⟨k, rInst_mem hk⟩, fun a b hab => g3 (a, b) hab⟩
        rcases g1 with g1 | ⟨⟨g1, g4⟩, g5⟩
        · exact Or.inl (hasLays_mem g1)
        · exact Or.inr ⟨hasLaysF_mem g1, g4, g5⟩
      · cases h
    · cases h
  · cases h
end Res
end Jvm.Own
namespace Jvm.Own
open Sem ClassFile Op Lib Jvm.Stand Jvm.Free Jvm.LawKit Jvm.RoadKit
/-! OWN 2: the abstract machine -/
abbrev XR := Option (Nat × List Slot × List Value)
def chk {α : Type} (a b : Nat) (x : Option α) : Option α := if a = b then x else none
def isI : Value → Bool | .int _ => true | _ => false
def isL : Value → Bool | .long _ => true | _ => false
def stl (ls : List Slot) (i : Nat) (v : Value) : Option (List Slot) := (storeLocals ls.toArray i v).map Array.toList
def ldV (p : Value → Bool) (nx i : Nat) (ls : List Slot) (st : List Value) : XR :=
  match ls[i]? with
  | some (.val v) => if p v = true then some (nx, ls, v :: st) else none
  | _ => none
def stV (p : Value → Bool) (nx i : Nat) (ls : List Slot) : List Value → XR
  | v :: r => if p v = true then (stl ls i v).map fun l' => (nx, l', r) else none
  | [] => none
def b2 (f : Int32 → Int32 → Int32) (nx : Nat) (ls : List Slot) : List Value → XR
  | .int y :: .int x :: r => some (nx, ls, .int (f x y) :: r)
  | _ => none
def d2 (f : Int32 → Int32 → Int32) (nx : Nat) (ls : List Slot) : List Value → XR
  | .int y :: .int x :: r => if y = 0 then none else some (nx, ls, .int (f x y) :: r)
  | _ => none
def u1 (f : Int32 → Int32) (nx : Nat) (ls : List Slot) : List Value → XR
  | .int x :: r => some (nx, ls, .int (f x) :: r)
  | _ => none
def l2 (f : Int64 → Int64 → Int64) (nx : Nat) (ls : List Slot) : List Value → XR
  | .long y :: .long x :: r => some (nx, ls, .long (f x y) :: r)
  | _ => none
def lsh (f : Int64 → Int32 → Int64) (nx : Nat) (ls : List Slot) : List Value → XR
  | .int y :: .long x :: r => some (nx, ls, .long (f x y) :: r)
  | _ => none
def jmp (pc : Nat) (o : Int) : Option Nat := if 0 ≤ (pc : Int) + o then some ((pc : Int) + o).toNat else none
def br (c : Bool) (pc : Nat) (o : Int) (ls : List Slot) (r : List Value) : XR :=
  if c = true then (jmp pc o).map fun q => (q, ls, r) else some (pc + 3, ls, r)
def sw (pc : Nat) (dflt low high : Int) (offs : Array Int) (ls : List Slot) : List Value → XR
  | .int i :: r => if i.toInt < low ∨ i.toInt > high then (jmp pc dflt).map fun q => (q, ls, r) else
      match offs[(i.toInt - low).toNat]? with
      | some o => (jmp pc o).map fun q => (q, ls, r)
      | none => none
  | _ => none
def xstep (ins : Instr) (len pc : Nat) (ls : List Slot) (st : List Value) : XR :=
  match ins with
  | .aload_n i => chk len 1 (ldV Value.isRef (pc + 1) i.val ls st)
  | .aload i => chk len 2 (ldV Value.isRef (pc + 2) i ls st)
  | .iload_n i => chk len 1 (ldV isI (pc + 1) i.val ls st)
  | .iload i => chk len 2 (ldV isI (pc + 2) i ls st)
  | .lload_n i => chk len 1 (ldV isL (pc + 1) i.val ls st)
  | .lload i => chk len 2 (ldV isL (pc + 2) i ls st)
  | .astore_n i => chk len 1 (stV Value.isRef (pc + 1) i.val ls st)
  | .astore i => chk len 2 (stV Value.isRef (pc + 2) i ls st)
  | .istore_n i => chk len 1 (stV isI (pc + 1) i.val ls st)
  | .istore i => chk len 2 (stV isI (pc + 2) i ls st)
  | .lstore_n i => chk len 1 (stV isL (pc + 1) i.val ls st)
  | .lstore i => chk len 2 (stV isL (pc + 2) i ls st)
  | .iconst i => chk len 1 (some (pc + 1, ls, .int (Int32.ofInt i) :: st))
  | .bipush i => chk len 2 (some (pc + 2, ls, .int (Int8.ofInt i).toInt32 :: st))
  | .sipush i => chk len 3 (some (pc + 3, ls, .int (Int16.ofInt i).toInt32 :: st))
  | .lconst i => chk len 1 (some (pc + 1, ls, .long (Int64.ofNat i) :: st))
  | .iadd => chk len 1 (b2 (fun x y => x + y) (pc + 1) ls st)
  | .isub => chk len 1 (b2 (fun x y => x - y) (pc + 1) ls st)
  | .imul => chk len 1 (b2 (fun x y => x * y) (pc + 1) ls st)
  | .iand => chk len 1 (b2 (fun x y => x &&& y) (pc + 1) ls st)
  | .ior => chk len 1 (b2 (fun x y => x ||| y) (pc + 1) ls st)
  | .ixor => chk len 1 (b2 (fun x y => x ^^^ y) (pc + 1) ls st)
  | .ishl => chk len 1 (b2 (fun x y => x <<< (y &&& 31)) (pc + 1) ls st)
  | .ishr => chk len 1 (b2 (fun x y => x >>> (y &&& 31)) (pc + 1) ls st)
  | .iushr => chk len 1 (b2 XT.ushr (pc + 1) ls st)
  | .idiv => chk len 1 (d2 (fun x y => x / y) (pc + 1) ls st)
  | .irem => chk len 1 (d2 (fun x y => x % y) (pc + 1) ls st)
  | .ineg => chk len 1 (u1 (fun x => -x) (pc + 1) ls st)
  | .i2b => chk len 1 (u1 (fun x => x.toInt8.toInt32) (pc + 1) ls st)
  | .i2c => chk len 1 (u1 (fun x => x.toUInt32.toUInt16.toUInt32.toInt32) (pc + 1) ls st)
  | .ladd => chk len 1 (l2 (fun x y => x + y) (pc + 1) ls st)
  | .lsub => chk len 1 (l2 (fun x y => x - y) (pc + 1) ls st)
  | .lmul => chk len 1 (l2 (fun x y => x * y) (pc + 1) ls st)
  | .land => chk len 1 (l2 (fun x y => x &&& y) (pc + 1) ls st)
  | .lor => chk len 1 (l2 (fun x y => x ||| y) (pc + 1) ls st)
  | .lxor => chk len 1 (l2 (fun x y => x ^^^ y) (pc + 1) ls st)
  | .lshl => chk len 1 (lsh (fun x y => x <<< (y.toInt64 &&& 63)) (pc + 1) ls st)
  | .lshr => chk len 1 (lsh (fun x y => x >>> (y.toInt64 &&& 63)) (pc + 1) ls st)
  | .lushr => chk len 1 (lsh XT.ushrL (pc + 1) ls st)
  | .lneg => chk len 1 (match st with | .long x :: r => some (pc + 1, ls, .long (-x) :: r) | _ => none)
  | .i2l => chk len 1 (match st with | .int x :: r => some (pc + 1, ls, .long x.toInt64 :: r) | _ => none)
  | .l2i => chk len 1 (match st with | .long x :: r => some (pc + 1, ls, .int x.toInt32 :: r) | _ => none)
  | .lcmp => chk len 1 (match st with | .long y :: .long x :: r => some (pc + 1, ls, .int (XT.cmpL x y) :: r) | _ => none)
  | .iinc i cst => chk len 3 (match ls[i]? with | some (.val (.int x)) => (stl ls i (.int (x + Int32.ofInt cst))).map fun l' => (pc + 3, l', st) | _ => none)
  | .dup => chk len 1 (match st with | x :: r => if x.category = 1 then some (pc + 1, ls, x :: x :: r) else none | _ => none)
  | .dup2 => chk len 1 (match st with
      | .long x :: r => some (pc + 1, ls, .long x :: .long x :: r)
      | x :: y :: r => if x.category = 1 ∧ y.category = 1 then some (pc + 1, ls, x :: y :: x :: y :: r) else none
      | _ => none)
  | .pop => chk len 1 (match st with | x :: r => if x.category = 1 then some (pc + 1, ls, r) else none | _ => none)
  | .goto o => chk len 3 ((jmp pc o).map fun q => (q, ls, st))
  | .ifCond cd o => chk len 3 (match st with | .int x :: r => br (ifCond.holds cd x) pc o ls r | _ => none)
  | .if_icmp cd o => chk len 3 (match st with | .int y :: .int x :: r => br (if_icmp.holds cd x y) pc o ls r | _ => none)
  | .tableswitch dflt low high offs => sw pc dflt low high offs ls st
  | _ => none
abbrev HR := Option (Nat × List Value × AHeap)
def putv : FieldType → Value → Option Value
  | .int, .int x => some (.int x)
  | .boolean, .int x => some (.int (nar .boolean x))
  | .byte, .int x => some (.int (nar .byte x))
  | .char, .int x => some (.int (nar .char x))
  | .short, .int x => some (.int (nar .short x))
  | .long, .long x => some (.long x)
  | .array _, .ref a => some (.ref a)
  | _, _ => none
def dflt (q : String × String) : Value := match parseFieldDescriptor q.2 with | some ty => defaultValue ty | none => .null
def hGet (ws : Ws) (own : String) (i pc : Nat) (H : AHeap) : List Value → HR
  | .ref a :: r =>
    match gfR ws own i, H[a]? with
    | some (C, j), some (.object C', vs) => if C = C' then (vs[j]?).map fun v => (pc + 3, v :: r, H) else none
    | _, _ => none
  | _ => none
def hPut (ws : Ws) (k : Nat) (own mn : String) (i pc : Nat) (H : AHeap) : List Value → HR
  | v :: .ref a :: r =>
    match pfR ws own mn i, H[a]? with
    | some (C, j, ty), some (.object C', vs) => if C = C' ∧ k ≤ a ∧ j < vs.length then (putv ty v).map fun v' => (pc + 3, r, H.set a (.object C', vs.set j v')) else none
    | _, _ => none
  | _ => none
def hNew (ws : Ws) (own : String) (i pc : Nat) (H : AHeap) (st : List Value) : HR :=
  match rCls ws own i with
  | some C => if (rInst ws C).isSome = true ∧ hasInit ws C = true then some (pc + 3, .ref H.length :: st, H ++ [(.object C, (olay ws C).map dflt)]) else none
  | none => none
def hNewA (ws : Ws) (aty : ArrayType) (pc : Nat) (H : AHeap) : List Value → HR
  | .int n :: r => if hasArr ws (newarray.typeOf aty) = true ∧ ¬ n < 0 ∧ n.toNatClampNeg * 8 ≤ 536870912 then
      some (pc + 2, .ref H.length :: r, H ++ [(.array (newarray.typeOf aty), List.replicate n.toNatClampNeg (defaultValue (newarray.typeOf aty)))]) else none
  | _ => none
def hLd (ok : FieldType → Bool) (pc : Nat) (H : AHeap) : List Value → HR
  | .int j :: .ref a :: r =>
    match H[a]? with
    | some (.array ty, vs) => if ok ty = true ∧ ¬ j < 0 then (vs[j.toNatClampNeg]?).map fun v => (pc + 1, v :: r, H) else none
    | _ => none
  | _ => none
def hSt (ok : FieldType → Bool) (k pc : Nat) (H : AHeap) : List Value → HR
  | v :: .int j :: .ref a :: r =>
    match H[a]? with
    | some (.array ty, vs) => if ok ty = true ∧ k ≤ a ∧ ¬ j < 0 ∧ j.toNatClampNeg < vs.length then (putv ty v).map fun v' => (pc + 1, r, H.set a (.array ty, vs.set j.toNatClampNeg v')) else none
    | _ => none
  | _ => none
def hLen (pc : Nat) (H : AHeap) : List Value → HR
  | .ref a :: r =>
    match H[a]? with
    | some (.array _, vs) => some (pc + 1, .int vs.length.toInt32 :: r, H)
    | _ => none
  | _ => none
def okT (t u : FieldType) : Bool := decide (u = t)
def okB (u : FieldType) : Bool := decide (u = .byte) || decide (u = .boolean)
def hstep (ws : Ws) (k : Nat) (y : MethodName) (ins : Instr) (len pc : Nat) (st : List Value) (H : AHeap) : HR :=
  match ins with
  | .getfield i => chk len 3 (hGet ws y.cls i pc H st)
  | .putfield i => chk len 3 (hPut ws k y.cls y.name i pc H st)
  | .new i => chk len 3 (hNew ws y.cls i pc H st)
  | .newarray aty => chk len 2 (hNewA ws aty pc H st)
  | .iaload => chk len 1 (hLd (okT .int) pc H st)
  | .caload => chk len 1 (hLd (okT .char) pc H st)
  | .laload => chk len 1 (hLd (okT .long) pc H st)
  | .baload => chk len 1 (hLd okB pc H st)
  | .iastore => chk len 1 (hSt (okT .int) k pc H st)
  | .castore => chk len 1 (hSt (okT .char) k pc H st)
  | .lastore => chk len 1 (hSt (okT .long) k pc H st)
  | .bastore => chk len 1 (hSt okB k pc H st)
  | .arraylength => chk len 1 (hLen pc H st)
  | .ldc i => chk len 2 ((rCon ws y.cls i).map fun v => (pc + 2, .int v :: st, H))
  | .ldc_w i => chk len 3 ((rCon ws y.cls i).map fun v => (pc + 3, .int v :: st, H))
  | .ldc2_w i => chk len 3 ((rConL ws y.cls i).map fun v => (pc + 3, .long v :: st, H))
  | _ => none
def ent : List Value → List Slot
  | [] => []
  | v :: r => if v.category = 2 then .val v :: .second :: ent r else .val v :: ent r
def entry (as : List Value) (mx : Nat) : List Slot := ent as ++ List.replicate (mx - (ent as).length) .unset
def wsum (st : List Value) : Nat := (st.map fun v => v.category).sum
abbrev Dn := List (MethodName × Nat × Nat)
def dnOf (dn : Dn) (y : MethodName) : Option (Nat × Nat) := dn.findSome? fun q => if q.1 = y then some q.2 else none
/-- what a methodref says: callee, its code, max_locals, return, number of parameters, slack for what lies under -/
def cR (ws : Ws) (dn : Dn) (y : MethodName) (i : Nat) : Option (MethodName × ByteArray × Nat × Option FieldType × Nat × Nat) :=
  match rMth ws y.cls i with
  | none => none
  | some y' =>
    match rCode ws y', dnOf dn y', dnOf dn y, parseMethodDescriptor y'.desc with
    | some (b, mx, r), some (f', l'), some (f, l), some sig =>
      if hasInit ws y'.cls = true ∧ Jvm.plainName y'.cls = true ∧ y'.cls ≠ "java/lang/invoke/MethodHandle" ∧ y'.cls ≠ "java/lang/invoke/VarHandle" ∧ f' + 1 ≤ f ∧ mx + 11 + l' ≤ l then
        some (y', b, mx, r, sig.parameters.length, l - (mx + 11 + l')) else none
    | _, _, _, _ => none
def sR (ws : Ws) (dn : Dn) (y : MethodName) (i : Nat) : Option (MethodName × ByteArray × Nat × Option FieldType × Nat × Nat) :=
  match cR ws dn y i with
  | some q => if hasStat ws q.1 = true then some q else none
  | none => none
def nR (ws : Ws) (dn : Dn) (y : MethodName) (i : Nat) : Option (MethodName × ByteArray × Nat × Option FieldType × Nat × Nat) :=
  match cR ws dn y i with
  | some q => if q.1.name = "<init>" ∧ hasIM ws q.1 = true ∧ q.2.2.2.1 = none then some q else none
  | none => none
/-- the first: is it private? -/
def vR (ws : Ws) (dn : Dn) (y : MethodName) (i : Nat) : Option (Bool × MethodName × ByteArray × Nat × Option FieldType × Nat × Nat) :=
  match cR ws dn y i with
  | some q => if hasIM ws q.1 = true then
      (if hasPriv ws q.1 = true ∧ (rInst ws q.1.cls).isSome = true then some (true, q) else if hasDecl ws q.1 = true ∧ hasSel ws q.1 = true then some (false, q) else none) else none
  | none => none
/-- Object.<init>: how many words may lie under it -/
def oR (ws : Ws) (dn : Dn) (y : MethodName) (i : Nat) : Option Nat :=
  match rMth ws y.cls i, rCode ws Lib.objectInit, dnOf dn y with
  | some y', some (b, mx, r), some (f, l) =>
    if y' = Lib.objectInit ∧ hasIM ws Lib.objectInit = true ∧ b.data = #[0xb1] ∧ mx = 1 ∧ r = none ∧ 1 ≤ f ∧ 12 ≤ l then some (l - 12) else none
  | _, _, _ => none
abbrev Call := MethodName × ByteArray × Option FieldType × List Slot × List Value
/-- returns and calls -/
def cstep (ws : Ws) (dn : Dn) (y : MethodName) (ret : Option FieldType) (ins : Instr) (len pc : Nat) (ls : List Slot) (st : List Value) (H : AHeap) : Option (Option Value ⊕ (Nat × List Slot × List Value × AHeap) ⊕ Call) :=
  match ins with
  | .ireturn => chk len 1 (match st, ret with
      | .int z :: _, some t => if t = .int ∨ t = .boolean ∨ t = .byte ∨ t = .char ∨ t = .short then some (.inl (some (.int (nar t z)))) else none
      | _, _ => none)
  | .lreturn => chk len 1 (match st, ret with
      | [.long z], some .long => some (.inl (some (.long z)))
      | _, _ => none)
  | .return_ => chk len 1 (match st, ret with
      | [], none => some (.inl none)
      | _, _ => none)
  | .invokestatic i => chk len 3 (match sR ws dn y i with
      | some (y', b, mx, r, na, sl) =>
        if na ≤ st.length ∧ wsum (st.drop na) ≤ sl ∧ (ent (st.take na).reverse).length ≤ mx then
          some (.inr (.inr (y', b, r, entry (st.take na).reverse mx, st.drop na)))
        else none
      | none => none)
  | .invokespecial i => chk len 3 (match oR ws dn y i with
      | some sl => (match st with
          | .ref _ :: r => if wsum r ≤ sl then some (.inr (.inl (pc + 3, ls, r, H))) else none
          | _ => none)
      | none => match nR ws dn y i with
        | some (y', b, mx, r, na, sl) =>
          (match st.drop na with
          | .ref a :: rest =>
            if wsum rest ≤ sl ∧ (ent (.ref a :: (st.take na).reverse)).length ≤ mx ∧ na ≤ st.length then
              some (.inr (.inr (y', b, r, entry (.ref a :: (st.take na).reverse) mx, rest)))
            else none
          | _ => none)
        | none => none)
  | .invokevirtual i => chk len 3 (match vR ws dn y i with
      | some (pv, y', b, mx, r, na, sl) =>
        (match st.drop na with
        | .ref a :: rest =>
          (match H[a]? with
          | some (.object C, _) =>
            if (pv = true ∨ C = y'.cls) ∧ wsum rest ≤ sl ∧ (ent (.ref a :: (st.take na).reverse)).length ≤ mx ∧ na ≤ st.length then
              some (.inr (.inr (y', b, r, entry (.ref a :: (st.take na).reverse) mx, rest)))
            else none
          | _ => none)
        | _ => none)
      | none => none)
  | _ => none
/-- what the machine does next: it returns, it steps, it calls -/
def act (ws : Ws) (dn : Dn) (k : Nat) (y : MethodName) (bytes : ByteArray) (ret : Option FieldType) (pc : Nat) (ls : List Slot) (st : List Value) (H : AHeap) : Option (Option Value ⊕ (Nat × List Slot × List Value × AHeap) ⊕ Call) :=
  match decode bytes pc with
  | .error _ => none
  | .ok (ins, len) =>
    match xstep ins len pc ls st with
    | some q => some (.inr (.inl (q.1, q.2.1, q.2.2, H)))
    | none => match hstep ws k y ins len pc st H with
      | some q => some (.inr (.inl (q.1, ls, q.2.1, q.2.2)))
      | none => cstep ws dn y ret ins len pc ls st H
def run (ws : Ws) (dn : Dn) (k : Nat) : Nat → MethodName → ByteArray → Option FieldType → Nat → List Slot → List Value → AHeap → Option (Option Value × AHeap)
  | 0, _, _, _, _, _, _, _ => none
  | n + 1, y, bytes, ret, pc, ls, st, H =>
    match act ws dn k y bytes ret pc ls st H with
    | none => none
    | some (.inl v) => some (v, H)
    | some (.inr (.inl (pc', ls', st', H'))) => run ws dn k n y bytes ret pc' ls' st' H'
    | some (.inr (.inr (y', b, r, en, rest))) =>
      match run ws dn k n y' b r 0 en [] H with
      | some (v, H1) => run ws dn k n y bytes ret (pc + 3) ls (v.toList ++ rest) H1
      | none => none
end Jvm.Own
namespace Jvm.Own
open Sem ClassFile Op Lib Jvm.Stand Jvm.Free Jvm.LawKit Jvm.RoadKit
/-! OWN 3: the abstract machine's plain steps are the machine's -/
def ren (f : Nat → Nat) : Value → Value
  | .ref a => .ref (f a)
  | v => v
def renS (f : Nat → Nat) : Slot → Slot
  | .val v => .val (ren f v)
  | s => s
abbrev fr (f : Nat → Nat) (m : MethodId) (pc : Nat) (ls : List Slot) (st : List Value) : JFrame := mkF m pc (ls.map (renS f)).toArray (st.map (ren f))
theorem ren_cat (f : Nat → Nat) (v : Value) : (ren f v).category = v.category := by cases v <;> rfl
theorem ren_isRef (f : Nat → Nat) (v : Value) : (ren f v).isRef = v.isRef := by cases v <;> rfl
theorem isI_int {v : Value} (h : isI v = true) : ∃ x, v = .int x := by cases v <;> first | exact ⟨_, rfl⟩ | cases h
theorem isL_long {v : Value} (h : isL v = true) : ∃ x, v = .long x := by cases v <;> first | exact ⟨_, rfl⟩ | cases h
theorem chk_some {α : Type} {a b : Nat} {x : Option α} {r : α} (h : chk a b x = some r) : a = b ∧ x = some r := by
  unfold chk at h
  split at h
  · exact ⟨by assumption, h⟩
  · cases h
theorem loc_get {f : Nat → Nat} {ls : List Slot} {i : Nat} {s : Slot} (h : ls[i]? = some s) : ((ls.map (renS f)).toArray)[i]? = some (renS f s) := by
  rw [List.getElem?_toArray, List.getElem?_map, h]; rfl
theorem setAt_ren (f : Nat → Nat) (l : Array Slot) (i : Nat) (x : Slot) : setAt (l.map (renS f)) i (renS f x) = (setAt l i x).map fun a => a.map (renS f) := by
  unfold setAt
  rw [Array.size_map]
  split
  · rw [Option.map_some, Array.map_setIfInBounds]
  · rfl
theorem storeSelf_ren (f : Nat → Nat) (l : Array Slot) (i : Nat) (v : Value) : storeSelf (l.map (renS f)) i (ren f v) = (storeSelf l i v).map fun a => a.map (renS f) := by
  have h0 : setAt (l.map (renS f)) i (.val (ren f v)) = _ := setAt_ren f l i (.val v)
  simp only [storeSelf, h0, ren_cat]
  cases setAt l i (.val v) with
  | none => rfl
  | some l1 =>
    simp only [Option.map_some, Option.bind_eq_bind, Option.bind_some, bind_pure_comp]
    split
    · rw [Array.getElem?_map]
      cases l1[i + 1]? with
      | none => rfl
      | some s =>
        simp only [Option.map_some, Option.bind_some]
        cases s with
        | unset => exact setAt_ren f l1 (i + 1) .second
        | second => exact setAt_ren f l1 (i + 1) .second
        | val w =>
          simp only [renS, ren_cat]
          split
          · have h1 : setAt (l1.map (renS f)) (i + 2) .unset = _ := setAt_ren f l1 (i + 2) .unset
            rw [h1]
            cases setAt l1 (i + 2) .unset with
            | none => rfl
            | some l2 => exact setAt_ren f l2 (i + 1) .second
          · exact setAt_ren f l1 (i + 1) .second
    · rfl
theorem storeLocals_ren (f : Nat → Nat) (l : Array Slot) (i : Nat) (v : Value) : storeLocals (l.map (renS f)) i (ren f v) = (storeLocals l i v).map fun a => a.map (renS f) := by
  simp only [storeLocals, Array.getElem?_map]
  cases l[i]? with
  | none => rfl
  | some s =>
    simp only [Option.map_some, Option.bind_eq_bind, Option.bind_some]
    cases s with
    | unset => exact storeSelf_ren f l i v
    | second =>
      have h1 : setAt (l.map (renS f)) (i - 1) .unset = _ := setAt_ren f l (i - 1) .unset
      simp only [renS, h1]
      cases setAt l (i - 1) .unset with
      | none => rfl
      | some l2 => exact storeSelf_ren f l2 i v
    | val w =>
      simp only [renS, ren_cat]
      split
      · have h1 : setAt (l.map (renS f)) (i + 1) .unset = _ := setAt_ren f l (i + 1) .unset
        rw [h1]
        cases setAt l (i + 1) .unset with
        | none => rfl
        | some l2 => exact storeSelf_ren f l2 i v
      · exact storeSelf_ren f l i v
theorem stl_ren {f : Nat → Nat} {ls l' : List Slot} {i : Nat} {v : Value} (h : stl ls i v = some l') : storeLocals (ls.map (renS f)).toArray i (ren f v) = some (l'.map (renS f)).toArray := by
  unfold stl at h
  obtain ⟨a, ha, rfl⟩ := Option.map_eq_some_iff.mp h
  have := storeLocals_ren f ls.toArray i v
  rw [ha] at this
  rw [← List.map_toArray, this]
  simp [← Array.toList_inj]
theorem setAt_size {l l' : Array Slot} {i : Nat} {x : Slot} (h : setAt l i x = some l') : l'.size = l.size := by
  unfold setAt at h
  split at h
  · cases h; simp
  · cases h
theorem storeSelf_size {l l' : Array Slot} {i : Nat} {v : Value} (h : storeSelf l i v = some l') : l'.size = l.size := by
  simp only [storeSelf, Option.bind_eq_bind, Option.bind_eq_some_iff] at h
  obtain ⟨l1, h1, h⟩ := h
  have e1 := setAt_size h1
  split at h
  · obtain ⟨s, -, h⟩ := Option.bind_eq_some_iff.mp h
    split at h
    · split at h
      · obtain ⟨l2, h2, h⟩ := Option.bind_eq_some_iff.mp h
        rw [setAt_size h, setAt_size h2, e1]
      · rw [setAt_size h, e1]
    · rw [setAt_size h, e1]
  · cases h; exact e1
theorem storeLocals_size {l l' : Array Slot} {i : Nat} {v : Value} (h : storeLocals l i v = some l') : l'.size = l.size := by
  simp only [storeLocals, Option.bind_eq_bind, Option.bind_eq_some_iff] at h
  obtain ⟨s, -, h⟩ := h
  split at h
  · obtain ⟨l2, h2, h⟩ := Option.bind_eq_some_iff.mp h
    rw [storeSelf_size h, setAt_size h2]
  · split at h
    · obtain ⟨l2, h2, h⟩ := Option.bind_eq_some_iff.mp h
      rw [storeSelf_size h, setAt_size h2]
    · exact storeSelf_size h
  · exact storeSelf_size h
theorem stl_size {ls l' : List Slot} {i : Nat} {v : Value} (h : stl ls i v = some l') : l'.length = ls.length := by
  unfold stl at h
  obtain ⟨a, ha, rfl⟩ := Option.map_eq_some_iff.mp h
  have := storeLocals_size ha
  simpa using this
theorem ldV_some {p : Value → Bool} {nx i : Nat} {ls : List Slot} {st : List Value} {q : Nat × List Slot × List Value} (h : ldV p nx i ls st = some q) : ∃ v, ls[i]? = some (.val v) ∧ p v = true ∧ q = (nx, ls, v :: st) := by
  unfold ldV at h
  split at h
  · rename_i v hv
    split at h
    · cases h; exact ⟨v, hv, by assumption, rfl⟩
    · cases h
  · cases h
theorem stV_some {p : Value → Bool} {nx i : Nat} {ls : List Slot} {st : List Value} {q : Nat × List Slot × List Value} (h : stV p nx i ls st = some q) : ∃ v r l', st = v :: r ∧ p v = true ∧ stl ls i v = some l' ∧ q = (nx, l', r) := by
  unfold stV at h
  split at h
  · split at h
    · obtain ⟨l', h1, h2⟩ := Option.map_eq_some_iff.mp h
      exact ⟨_, _, l', rfl, by assumption, h1, h2.symm⟩
    · cases h
  · cases h
theorem b2_some {f : Int32 → Int32 → Int32} {nx : Nat} {ls : List Slot} {st : List Value} {q : Nat × List Slot × List Value} (h : b2 f nx ls st = some q) : ∃ x y r, st = .int y :: .int x :: r ∧ q = (nx, ls, .int (f x y) :: r) := by
  unfold b2 at h
  split at h
  · cases h; exact ⟨_, _, _, rfl, rfl⟩
  · cases h
theorem d2_some {f : Int32 → Int32 → Int32} {nx : Nat} {ls : List Slot} {st : List Value} {q : Nat × List Slot × List Value} (h : d2 f nx ls st = some q) : ∃ x y r, st = .int y :: .int x :: r ∧ y ≠ 0 ∧ q = (nx, ls, .int (f x y) :: r) := by
  unfold d2 at h
  split at h
  · split at h
    · cases h
    · cases h; exact ⟨_, _, _, rfl, by assumption, rfl⟩
  · cases h
theorem u1_some {f : Int32 → Int32} {nx : Nat} {ls : List Slot} {st : List Value} {q : Nat × List Slot × List Value} (h : u1 f nx ls st = some q) : ∃ x r, st = .int x :: r ∧ q = (nx, ls, .int (f x) :: r) := by
  unfold u1 at h
  split at h
  · cases h; exact ⟨_, _, rfl, rfl⟩
  · cases h
theorem l2_some {f : Int64 → Int64 → Int64} {nx : Nat} {ls : List Slot} {st : List Value} {q : Nat × List Slot × List Value} (h : l2 f nx ls st = some q) : ∃ x y r, st = .long y :: .long x :: r ∧ q = (nx, ls, .long (f x y) :: r) := by
  unfold l2 at h
  split at h
  · cases h; exact ⟨_, _, _, rfl, rfl⟩
  · cases h
theorem lsh_some {f : Int64 → Int32 → Int64} {nx : Nat} {ls : List Slot} {st : List Value} {q : Nat × List Slot × List Value} (h : lsh f nx ls st = some q) : ∃ x y r, st = .int y :: .long x :: r ∧ q = (nx, ls, .long (f x y) :: r) := by
  unfold lsh at h
  split at h
  · cases h; exact ⟨_, _, _, rfl, rfl⟩
  · cases h
theorem jmp_some {pc q : Nat} {o : Int} (h : jmp pc o = some q) : 0 ≤ (pc : Int) + o ∧ ((pc : Int) + o).toNat = q := by
  unfold jmp at h
  split at h
  · cases h; exact ⟨by assumption, rfl⟩
  · cases h
theorem br_some {c : Bool} {pc : Nat} {o : Int} {ls : List Slot} {r : List Value} {q : Nat × List Slot × List Value} (h : br c pc o ls r = some q) : (c = true ∧ ∃ t, 0 ≤ (pc : Int) + o ∧ ((pc : Int) + o).toNat = t ∧ q = (t, ls, r)) ∨ (c = false ∧ q = (pc + 3, ls, r)) := by
  unfold br at h
  split at h
  · obtain ⟨t, h1, h2⟩ := Option.map_eq_some_iff.mp h
    obtain ⟨h3, h4⟩ := jmp_some h1
    exact Or.inl ⟨by assumption, t, h3, h4, h2.symm⟩
  · rename_i hc; cases h; exact Or.inr ⟨by simpa using hc, rfl⟩
section X
variable {tb : Tables} [Ours tb] {e : Env} {below : List Frame} {T target : State} {m : MethodId} {c : Code}
set_option maxHeartbeats 4000000 in
theorem xstep_sound (h : At T m c below) (hx : tb.exec = Jvm.exec) (f : Nat → Nat) {ins : Instr} {len pc : Nat} {ls : List Slot} {st : List Value} {q : Nat × List Slot × List Value}
    (hd : decode c.code pc = .ok (ins, len)) (hs : xstep ins len pc ls st = some q) (hr : Steps tb e below (T.setTop (fr f m q.1 q.2.1 q.2.2)) target) : Steps tb e below (T.setTop (fr f m pc ls st)) target := by
  unfold xstep at hs
  split at hs
  · obtain ⟨rfl, hs⟩ := chk_some hs; obtain ⟨v, h1, h2, rfl⟩ := ldV_some hs
    exact XS.aloadN h hx rfl hd (loc_get h1) (by rw [ren_isRef]; exact h2) hr
  · obtain ⟨rfl, hs⟩ := chk_some hs; obtain ⟨v, h1, h2, rfl⟩ := ldV_some hs
    exact XS.aload h hx rfl hd (loc_get h1) (by rw [ren_isRef]; exact h2) hr
  · obtain ⟨rfl, hs⟩ := chk_some hs; obtain ⟨v, h1, h2, rfl⟩ := ldV_some hs; obtain ⟨x, rfl⟩ := isI_int h2
    exact XS.iloadN h hx rfl hd (loc_get (f := f) h1) hr
  · obtain ⟨rfl, hs⟩ := chk_some hs; obtain ⟨v, h1, h2, rfl⟩ := ldV_some hs; obtain ⟨x, rfl⟩ := isI_int h2
    exact XS.iload h hx rfl hd (loc_get (f := f) h1) hr
  · obtain ⟨rfl, hs⟩ := chk_some hs; obtain ⟨v, h1, h2, rfl⟩ := ldV_some hs; obtain ⟨x, rfl⟩ := isL_long h2
    exact XT.lloadN h hx rfl hd (loc_get (f := f) h1) hr
  · obtain ⟨rfl, hs⟩ := chk_some hs; obtain ⟨v, h1, h2, rfl⟩ := ldV_some hs; obtain ⟨x, rfl⟩ := isL_long h2
    exact XT.lload h hx rfl hd (loc_get (f := f) h1) hr
  · obtain ⟨rfl, hs⟩ := chk_some hs; obtain ⟨v, r, l', rfl, h2, h3, rfl⟩ := stV_some hs
    exact XS.astoreN h hx rfl hd rfl (by rw [ren_isRef]; exact h2) (stl_ren h3) hr
  · obtain ⟨rfl, hs⟩ := chk_some hs; obtain ⟨v, r, l', rfl, h2, h3, rfl⟩ := stV_some hs
    exact XS.astore h hx rfl hd rfl (by rw [ren_isRef]; exact h2) (stl_ren h3) hr
  · obtain ⟨rfl, hs⟩ := chk_some hs; obtain ⟨v, r, l', rfl, h2, h3, rfl⟩ := stV_some hs; obtain ⟨x, rfl⟩ := isI_int h2
    exact XS.istoreN h hx rfl hd rfl (stl_ren (f := f) h3) hr
  · obtain ⟨rfl, hs⟩ := chk_some hs; obtain ⟨v, r, l', rfl, h2, h3, rfl⟩ := stV_some hs; obtain ⟨x, rfl⟩ := isI_int h2
    exact XS.istore h hx rfl hd rfl (stl_ren (f := f) h3) hr
  · obtain ⟨rfl, hs⟩ := chk_some hs; obtain ⟨v, r, l', rfl, h2, h3, rfl⟩ := stV_some hs; obtain ⟨x, rfl⟩ := isL_long h2
    exact XT.lstoreN h hx rfl hd rfl (stl_ren (f := f) h3) hr
  · obtain ⟨rfl, hs⟩ := chk_some hs; obtain ⟨v, r, l', rfl, h2, h3, rfl⟩ := stV_some hs; obtain ⟨x, rfl⟩ := isL_long h2
    exact XT.lstore h hx rfl hd rfl (stl_ren (f := f) h3) hr
  · obtain ⟨rfl, hs⟩ := chk_some hs; cases hs
    exact XS.iconst h hx rfl hd hr
  · obtain ⟨rfl, hs⟩ := chk_some hs; cases hs
    exact XS.bipush h hx rfl hd hr
  · obtain ⟨rfl, hs⟩ := chk_some hs; cases hs
    exact XS.sipush h hx rfl hd hr
  · obtain ⟨rfl, hs⟩ := chk_some hs; cases hs
    exact XT.lconst h hx rfl hd hr
  · obtain ⟨rfl, hs⟩ := chk_some hs; obtain ⟨x, y, r, rfl, rfl⟩ := b2_some hs
    exact XS.iadd h hx rfl hd rfl hr
  · obtain ⟨rfl, hs⟩ := chk_some hs; obtain ⟨x, y, r, rfl, rfl⟩ := b2_some hs
    exact XS.isub h hx rfl hd rfl hr
  · obtain ⟨rfl, hs⟩ := chk_some hs; obtain ⟨x, y, r, rfl, rfl⟩ := b2_some hs
    exact XS.imul h hx rfl hd rfl hr
  · obtain ⟨rfl, hs⟩ := chk_some hs; obtain ⟨x, y, r, rfl, rfl⟩ := b2_some hs
    exact XS.iand h hx rfl hd rfl hr
  · obtain ⟨rfl, hs⟩ := chk_some hs; obtain ⟨x, y, r, rfl, rfl⟩ := b2_some hs
    exact XT.ior h hx rfl hd rfl hr
  · obtain ⟨rfl, hs⟩ := chk_some hs; obtain ⟨x, y, r, rfl, rfl⟩ := b2_some hs
    exact XT.ixor h hx rfl hd rfl hr
  · obtain ⟨rfl, hs⟩ := chk_some hs; obtain ⟨x, y, r, rfl, rfl⟩ := b2_some hs
    exact XT.ishl h hx rfl hd rfl hr
  · obtain ⟨rfl, hs⟩ := chk_some hs; obtain ⟨x, y, r, rfl, rfl⟩ := b2_some hs
    exact XT.ishr h hx rfl hd rfl hr
  · obtain ⟨rfl, hs⟩ := chk_some hs; obtain ⟨x, y, r, rfl, rfl⟩ := b2_some hs
    exact XT.iushr h hx rfl hd rfl hr
  · obtain ⟨rfl, hs⟩ := chk_some hs; obtain ⟨x, y, r, rfl, h2, rfl⟩ := d2_some hs
    exact XS.idiv h hx rfl hd rfl h2 hr
  · obtain ⟨rfl, hs⟩ := chk_some hs; obtain ⟨x, y, r, rfl, h2, rfl⟩ := d2_some hs
    refine XS.irem h hx rfl hd rfl h2 ?_
    have q : x - x / y * y = x % y := irem_eq_mod x y
    rw [q]; exact hr
  · obtain ⟨rfl, hs⟩ := chk_some hs; obtain ⟨x, r, rfl, rfl⟩ := u1_some hs
    exact XS.ineg h hx rfl hd rfl hr
  · obtain ⟨rfl, hs⟩ := chk_some hs; obtain ⟨x, r, rfl, rfl⟩ := u1_some hs
    exact XT.i2b h hx rfl hd rfl hr
  · obtain ⟨rfl, hs⟩ := chk_some hs; obtain ⟨x, r, rfl, rfl⟩ := u1_some hs
    exact XT.i2c h hx rfl hd rfl hr
  · obtain ⟨rfl, hs⟩ := chk_some hs; obtain ⟨x, y, r, rfl, rfl⟩ := l2_some hs
    exact XT.ladd h hx rfl hd rfl hr
  · obtain ⟨rfl, hs⟩ := chk_some hs; obtain ⟨x, y, r, rfl, rfl⟩ := l2_some hs
    exact XT.lsub h hx rfl hd rfl hr
  · obtain ⟨rfl, hs⟩ := chk_some hs; obtain ⟨x, y, r, rfl, rfl⟩ := l2_some hs
    exact XT.lmul h hx rfl hd rfl hr
  · obtain ⟨rfl, hs⟩ := chk_some hs; obtain ⟨x, y, r, rfl, rfl⟩ := l2_some hs
    exact XT.land h hx rfl hd rfl hr
  · obtain ⟨rfl, hs⟩ := chk_some hs; obtain ⟨x, y, r, rfl, rfl⟩ := l2_some hs
    exact XT.lor h hx rfl hd rfl hr
  · obtain ⟨rfl, hs⟩ := chk_some hs; obtain ⟨x, y, r, rfl, rfl⟩ := l2_some hs
    exact XT.lxor h hx rfl hd rfl hr
  · obtain ⟨rfl, hs⟩ := chk_some hs; obtain ⟨x, y, r, rfl, rfl⟩ := lsh_some hs
    exact XT.lshl h hx rfl hd rfl hr
  · obtain ⟨rfl, hs⟩ := chk_some hs; obtain ⟨x, y, r, rfl, rfl⟩ := lsh_some hs
    exact XT.lshr h hx rfl hd rfl hr
  · obtain ⟨rfl, hs⟩ := chk_some hs; obtain ⟨x, y, r, rfl, rfl⟩ := lsh_some hs
    exact XT.lushr h hx rfl hd rfl hr
  · obtain ⟨rfl, hs⟩ := chk_some hs
    split at hs
    · cases hs; exact XT.lneg h hx rfl hd rfl hr
    · cases hs
  · obtain ⟨rfl, hs⟩ := chk_some hs
    split at hs
    · cases hs; exact XT.i2l h hx rfl hd rfl hr
    · cases hs
  · obtain ⟨rfl, hs⟩ := chk_some hs
    split at hs
    · cases hs; exact XT.l2i h hx rfl hd rfl hr
    · cases hs
  · obtain ⟨rfl, hs⟩ := chk_some hs
    split at hs
    · cases hs; exact XT.lcmp h hx rfl hd rfl hr
    · cases hs
  · obtain ⟨rfl, hs⟩ := chk_some hs
    split at hs
    · rename_i x h1
      obtain ⟨l', h2, rfl⟩ := Option.map_eq_some_iff.mp hs
      exact XS.iinc h hx rfl hd (loc_get (f := f) h1) (stl_ren (f := f) h2) hr
    · cases hs
  · obtain ⟨rfl, hs⟩ := chk_some hs
    split at hs
    · split at hs
      · rename_i hc; cases hs; exact XS.dup h hx rfl hd rfl (by rw [ren_cat]; exact hc) hr
      · cases hs
    · cases hs
  · obtain ⟨rfl, hs⟩ := chk_some hs
    split at hs
    · cases hs; exact XT.dup2L h hx rfl hd rfl hr
    · split at hs
      · rename_i hc; cases hs; exact XT.dup2 h hx rfl hd rfl (by rw [ren_cat]; exact hc.1) (by rw [ren_cat]; exact hc.2) hr
      · cases hs
    · cases hs
  · obtain ⟨rfl, hs⟩ := chk_some hs
    split at hs
    · split at hs
      · rename_i hc; cases hs; exact XT.pop h hx rfl hd rfl (by rw [ren_cat]; exact hc) hr
      · cases hs
    · cases hs
  · obtain ⟨rfl, hs⟩ := chk_some hs
    obtain ⟨t, h1, rfl⟩ := Option.map_eq_some_iff.mp hs
    obtain ⟨h2, h3⟩ := jmp_some h1
    exact XS.goto h hx rfl rfl hd h2 h3 hr
  · obtain ⟨rfl, hs⟩ := chk_some hs
    split at hs
    · rcases br_some hs with ⟨hc, t, h1, h2, rfl⟩ | ⟨hc, rfl⟩
      · exact XS.ifYes h hx rfl rfl hd rfl hc h1 h2 hr
      · exact XS.ifNo h hx rfl hd rfl hc hr
    · cases hs
  · obtain ⟨rfl, hs⟩ := chk_some hs
    split at hs
    · rcases br_some hs with ⟨hc, t, h1, h2, rfl⟩ | ⟨hc, rfl⟩
      · exact XS.icmpYes h hx rfl rfl hd rfl hc h1 h2 hr
      · exact XS.icmpNo h hx rfl hd rfl hc hr
    · cases hs
  · unfold sw at hs
    split at hs
    · split at hs
      · rename_i hc
        obtain ⟨t, h1, rfl⟩ := Option.map_eq_some_iff.mp hs
        obtain ⟨h2, h3⟩ := jmp_some h1
        exact XS.tswOut h hx rfl rfl hd rfl hc h2 h3 hr
      · rename_i hc
        split at hs
        · rename_i o ho
          obtain ⟨t, h1, rfl⟩ := Option.map_eq_some_iff.mp hs
          obtain ⟨h2, h3⟩ := jmp_some h1
          exact XS.tswIn h hx rfl rfl hd rfl hc ho h2 h3 hr
        · cases hs
    · cases hs
  · cases hs
end X
theorem xstep_size {ins : Instr} {len pc : Nat} {ls : List Slot} {st : List Value} {q : Nat × List Slot × List Value} (hs : xstep ins len pc ls st = some q) : q.2.1.length = ls.length := by
  unfold xstep at hs
  split at hs
  all_goals first
    | (obtain ⟨rfl, hs⟩ := chk_some hs; obtain ⟨v, h1, h2, rfl⟩ := ldV_some hs; rfl)
    | (obtain ⟨rfl, hs⟩ := chk_some hs; obtain ⟨v, r, l', rfl, h2, h3, rfl⟩ := stV_some hs; exact stl_size h3)
    | (obtain ⟨rfl, hs⟩ := chk_some hs; cases hs; rfl)
    | (obtain ⟨rfl, hs⟩ := chk_some hs; obtain ⟨x, y, r, rfl, rfl⟩ := b2_some hs; rfl)
    | (obtain ⟨rfl, hs⟩ := chk_some hs; obtain ⟨x, y, r, rfl, h2, rfl⟩ := d2_some hs; rfl)
    | (obtain ⟨rfl, hs⟩ := chk_some hs; obtain ⟨x, r, rfl, rfl⟩ := u1_some hs; rfl)
    | (obtain ⟨rfl, hs⟩ := chk_some hs; obtain ⟨x, y, r, rfl, rfl⟩ := l2_some hs; rfl)
    | (obtain ⟨rfl, hs⟩ := chk_some hs; obtain ⟨x, y, r, rfl, rfl⟩ := lsh_some hs; rfl)
    | (obtain ⟨rfl, hs⟩ := chk_some hs; split at hs <;> first | (cases hs; rfl) | (cases hs; done))
    | (obtain ⟨rfl, hs⟩ := chk_some hs; split at hs <;> first | (obtain ⟨l', h2, rfl⟩ := Option.map_eq_some_iff.mp hs; exact stl_size h2) | (cases hs; done))
    | (obtain ⟨rfl, hs⟩ := chk_some hs; split at hs <;> first | (split at hs <;> first | (cases hs; rfl) | (cases hs; done)) | (cases hs; rfl) | (cases hs; done))
    | (obtain ⟨rfl, hs⟩ := chk_some hs; obtain ⟨t, h1, rfl⟩ := Option.map_eq_some_iff.mp hs; rfl)
    | (obtain ⟨rfl, hs⟩ := chk_some hs; split at hs <;> first | (rcases br_some hs with ⟨hc, t, h1, h2, rfl⟩ | ⟨hc, rfl⟩ <;> rfl) | (cases hs; done))
    | (unfold sw at hs; split at hs <;> first | (cases hs; done) | (split at hs <;> first | (obtain ⟨t, h1, rfl⟩ := Option.map_eq_some_iff.mp hs; rfl) | (split at hs <;> first | (obtain ⟨t, h1, rfl⟩ := Option.map_eq_some_iff.mp hs; rfl) | (cases hs; done))))
    | (cases hs; done)
end Jvm.Own
namespace Jvm.Own
open Sem ClassFile Op Lib Jvm.Stand Jvm.Free Jvm.LawKit Jvm.RoadKit
/-! OWN 4: the heap's steps -/
def adr (k sa n0 i : Nat) : Nat := if i < k then sa else n0 + (i - k)
def SimO (Z : State) (ws : Ws) (f : Nat → Nat) (h : Heap) (a : Addr) : FieldType × List Value → Prop
  | (.object C, vs) => Exa Z h a C ∧ ∀ n t j, fidx ws C n t = some j → ∃ v, vs[j]? = some v ∧ Fld Z h a C n t (ren f v)
  | (.array ty, vs) => ∃ c : Cell, Arr Z h a c ty ∧ c.slots = (vs.map (ren f)).toArray
  | _ => False
def Sim (Z : State) (ws : Ws) (k sa n0 : Nat) (H : AHeap) (h : Heap) : Prop :=
  h.size = n0 + (H.length - k) ∧ k ≤ H.length ∧ k ≤ 1 ∧ (1 ≤ k → sa < n0) ∧ ∀ i o, H[i]? = some o → SimO Z ws (adr k sa n0) h (adr k sa n0 i) o
def cost (ws : Ws) : FieldType × List Value → Nat
  | (.object C, _) => (rInst ws C).getD 0
  | (_, vs) => vs.length
def tot (ws : Ws) (H : AHeap) : Nat := (H.map (cost ws)).sum
theorem adr_inj {k sa n0 i j : Nat} (hk : k ≤ 1) (hs : 1 ≤ k → sa < n0) (e : adr k sa n0 i = adr k sa n0 j) : i = j := by
  unfold adr at e; split at e <;> split at e <;> omega
theorem adr_ge {k sa n0 a : Nat} (h : k ≤ a) : n0 ≤ adr k sa n0 a := by
  unfold adr; rw [if_neg (by omega)]; omega
theorem tot_app (ws : Ws) (H : AHeap) (o : FieldType × List Value) : tot ws (H ++ [o]) = tot ws H + cost ws o := by simp [tot]
theorem tot_set {ws : Ws} : ∀ {H : AHeap} {a : Nat} {o o' : FieldType × List Value}, H[a]? = some o → cost ws o' = cost ws o → tot ws (H.set a o') = tot ws H
  | [], _, _, _, h, _ => by cases h
  | x :: r, 0, o, o', h, e => by
    simp only [List.getElem?_cons_zero, Option.some.injEq] at h; subst h
    simp [tot, e]
  | x :: r, a + 1, o, o', h, e => by
    have := tot_set (ws := ws) (H := r) (a := a) (o := o) (o' := o') (by simpa using h) e
    simp only [tot, List.set_cons_succ, List.map_cons, List.sum_cons] at this ⊢
    rw [this]
theorem ren_dflt (f : Nat → Nat) (ty : FieldType) : ren f (defaultValue ty) = defaultValue ty := by cases ty <;> rfl
section Facts
variable {Z : State} {ws : Ws} {f : Nat → Nat} {h h' : Heap} {a b : Addr} {o : FieldType × List Value} {sl : Nat} {v : Value}
theorem SimO.ext (E : Ext h h') (S : SimO Z ws f h a o) : SimO Z ws f h' a o := by
  unfold SimO at S ⊢
  split at S
  · exact ⟨S.1.ext E, fun n t j q => by obtain ⟨v, h1, h2⟩ := S.2 n t j q; exact ⟨v, h1, h2.ext E⟩⟩
  · obtain ⟨c, h1, h2⟩ := S; exact ⟨c, h1.ext E, h2⟩
  · exact S.elim
theorem SimO.other (W : Wr h h' b sl v) (ne : a ≠ b) (S : SimO Z ws f h a o) : SimO Z ws f h' a o := by
  unfold SimO at S ⊢
  split at S
  · exact ⟨S.1.wr W, fun n t j q => by obtain ⟨v, h1, h2⟩ := S.2 n t j q; exact ⟨v, h1, h2.other W (Or.inl ne)⟩⟩
  · obtain ⟨c, h1, h2⟩ := S; exact ⟨c, h1.other W ne, h2⟩
  · exact S.elim
theorem Sim.push {k sa n0 : Nat} {H : AHeap} (S : Sim Z ws k sa n0 H h) (E : Ext h h') (hz : h'.size = h.size + 1) (O : SimO Z ws (adr k sa n0) h' h.size o) : Sim Z ws k sa n0 (H ++ [o]) h' := by
  obtain ⟨h1, h2, h3, h4, h5⟩ := S
  refine ⟨by rw [hz, h1, List.length_append, List.length_singleton]; omega, by rw [List.length_append]; omega, h3, h4, fun i o' q => ?_⟩
  rcases Nat.lt_trichotomy i H.length with g | g | g
  · rw [List.getElem?_append_left g] at q; exact (h5 i o' q).ext E
  · subst g
    rw [List.getElem?_append_right (Nat.le_refl _), Nat.sub_self] at q
    cases q
    have e : adr k sa n0 H.length = h.size := by unfold adr; rw [if_neg (by omega), h1]
    rw [e]; exact O
  · rw [List.getElem?_eq_none (by simp; omega)] at q; cases q
theorem Sim.next {k sa n0 : Nat} {H : AHeap} (S : Sim Z ws k sa n0 H h) : h.size = adr k sa n0 H.length := by
  obtain ⟨h1, h2, -⟩ := S
  unfold adr; rw [if_neg (by omega), h1]
theorem Wr.upd {k sa n0 i : Nat} {H : AHeap} {o' : FieldType × List Value} (S : Sim Z ws k sa n0 H h) (W : Wr h h' (adr k sa n0 i) sl v) (O : SimO Z ws (adr k sa n0) h' (adr k sa n0 i) o') : Sim Z ws k sa n0 (H.set i o') h' := by
  obtain ⟨h1, h2, h3, h4, h5⟩ := S
  refine ⟨by rw [W.size, h1, List.length_set], by rw [List.length_set]; exact h2, h3, h4, fun j q hq => ?_⟩
  by_cases e : i = j
  · subst e
    rw [List.getElem?_set_self' ] at hq
    cases hi : H[i]? with
    | none => rw [hi] at hq; cases hq
    | some x => rw [hi] at hq; cases hq; exact O
  · rw [List.getElem?_set_ne e] at hq
    exact (h5 j q hq).other W fun g => e (adr_inj h3 h4 g).symm
end Facts
theorem putv_ok {ty : FieldType} {v v' : Value} (f : Nat → Nat) (h : putv ty v = some v') : narrow ty (ren f v) = ren f v' ∧ fits ty (ren f v') = true := by
  unfold putv at h
  split at h
  · cases h; exact ⟨rfl, rfl⟩
  · cases h; exact ⟨rfl, fits_nar_bool _⟩
  · cases h; exact ⟨rfl, fits_nar_byte _⟩
  · cases h; exact ⟨rfl, fits_nar_char _⟩
  · cases h; exact ⟨rfl, fits_nar_short _⟩
  · cases h; exact ⟨rfl, rfl⟩
  · cases h; exact ⟨rfl, rfl⟩
  · cases h
theorem size_set (c : Cell) (j : Nat) (v : Value) (f : Nat → Nat) {vs : List Value} {v' : Value} (e : c.slots = (vs.map (ren f)).toArray) (q : v = ren f v') : (c.setSlot j v).slots = ((vs.set j v').map (ren f)).toArray := by
  subst q
  show c.slots.setIfInBounds j (ren f v') = _
  rw [e, List.setIfInBounds_toArray, List.map_set]
section H
variable {p : Program} {l : Launch} {e : Env} {R : Room} {s : State} {m : MethodId} {args : Array Value} {below : List Frame} {meth : Method} {c : Code} {T : State} {locs : List Loc} {cells slots : Nat}
  {Z : State} {a0 : Array Value} {ws : Ws} {k sa n0 : Nat} {y : MethodName} {pc : Nat} {ls : List Slot} {st : List Value} {H : AHeap}
/-- the point behind one step -/
def Beh (p : Program) (l : Launch) (e : Env) (R : Room) (s : State) (m : MethodId) (args : Array Value) (below : List Frame) (meth : Method) (c : Code) (T : State) (Z : State) (ws : Ws) (k sa n0 cells slots : Nat) (H : AHeap) (g : JFrame) (pc' : Nat) (ls' : List Slot) (st' : List Value) (H' : AHeap) : Prop :=
  ∃ T' locs', Stand p l e R s m args below meth c T' locs' (cells + (H'.length - H.length)) (slots + (tot ws H' - tot ws H)) ∧ Sim Z ws k sa n0 H' T'.heap ∧ Fr n0 locs' ∧
    ∀ target, Steps p.tables e below (T'.setTop (fr (adr k sa n0) m pc' ls' st')) target → Steps p.tables e below (T.setTop g) target
theorem Beh.stay {g : JFrame} {pc' : Nat} {st' : List Value} {T' : State} (X : Stand p l e R s m args below meth c T' locs cells slots) (S : Sim Z ws k sa n0 H T'.heap) (N : Fr n0 locs)
    (h : ∀ target, Steps p.tables e below (T'.setTop (fr (adr k sa n0) m pc' ls st')) target → Steps p.tables e below (T.setTop g) target) : Beh p l e R s m args below meth c T Z ws k sa n0 cells slots H g pc' ls st' H :=
  ⟨T', locs, by rw [Nat.sub_self, Nat.sub_self]; exact X, S, N, h⟩
theorem hGet_sound (hw : ∀ d ∈ ws, d.before a0 Z = true) (X : Stand p l e R s m args below meth c T locs cells slots) (hx : p.tables.exec = Jvm.exec) (hZ : Z.Warmed39 s.vm) (hown : s.vm.findClass y.cls = some m.cls)
    {i : Nat} (hd : decode c.code pc = .ok (.getfield i, 3)) {q : Nat × List Value × AHeap} (hs : hGet ws y.cls i pc H st = some q) (S : Sim Z ws k sa n0 H T.heap) (N : Fr n0 locs) :
    Beh p l e R s m args below meth c T Z ws k sa n0 cells slots H (fr (adr k sa n0) m pc ls st) q.1 ls q.2.1 q.2.2 := by
  unfold hGet at hs
  split at hs
  · rename_i a r
    split at hs
    · rename_i C j C' vs q1 q2
      split at hs
      · rename_i hC; subst hC
        obtain ⟨v, hv, rfl⟩ := Option.map_eq_some_iff.mp hs
        obtain ⟨n, t, r1, r2⟩ := gfR_some q1
        obtain ⟨v', hv', F⟩ := (S.2.2.2.2 a _ q2).2 n t j r2
        cases hv.symm.trans hv'
        obtain ⟨T', X', e', st'⟩ := getF X hx hZ hown (host := "") (Or.inl (hw _ (rFld_mem r1))) Via.refl rfl F (g := fr (adr k sa n0) m pc ls (.ref a :: r)) rfl rfl hd
        exact Beh.stay X' (by rw [e']; exact S) N st'
      · cases hs
    · cases hs
  · cases hs
theorem hPut_sound (hw : ∀ d ∈ ws, d.before a0 Z = true) (X : Stand p l e R s m args below meth c T locs cells slots) (hx : p.tables.exec = Jvm.exec) (hZ : Z.Warmed39 s.vm) (hown : s.vm.findClass y.cls = some m.cls) (hnm : meth.name = y.name)
    {i : Nat} (hd : decode c.code pc = .ok (.putfield i, 3)) {q : Nat × List Value × AHeap} (hs : hPut ws k y.cls y.name i pc H st = some q) (S : Sim Z ws k sa n0 H T.heap) (N : Fr n0 locs) :
    Beh p l e R s m args below meth c T Z ws k sa n0 cells slots H (fr (adr k sa n0) m pc ls st) q.1 ls q.2.1 q.2.2 := by
  unfold hPut at hs
  split at hs
  · rename_i v a r
    split at hs
    · rename_i C j ty C' vs q1 q2
      split at hs
      · rename_i hC; obtain ⟨rfl, hk, hj⟩ := hC
        obtain ⟨v', hv, rfl⟩ := Option.map_eq_some_iff.mp hs
        obtain ⟨n, t, r1, r2, r3, r4, ⟨ki, r5⟩, r6⟩ := pfR_some q1
        have SO := S.2.2.2.2 a _ q2
        obtain ⟨w, hw', F⟩ := SO.2 n t j r2
        obtain ⟨g1, g2⟩ := putv_ok (adr k sa n0) hv
        obtain ⟨T', h', X', e', W, st'⟩ := putFN X hx hZ hown (hw _ (rFld_mem r1)) Via.refl rfl F SO.1 (r4.imp (fun q => hw _ q) fun q => ⟨hw _ q.1, q.2.1, hnm.trans q.2.2⟩) (hw _ r5) r3 g1 g2 (g := fr (adr k sa n0) m pc ls (v :: .ref a :: r)) rfl rfl hd
        have LL : ∀ {n' t' : String}, (n', t') ∈ olay ws C → Laid Z a0 C C n' t' := fun q => (lay_mem q).1.imp (fun q => hw _ q) (fun q => hw _ q)
        have O' : SimO Z ws (adr k sa n0) h' (adr k sa n0 a) (.object C, vs.set j v') := by
          refine ⟨SO.1.wr W, fun n' t' j' q' => ?_⟩
          obtain ⟨u, hu, F'⟩ := SO.2 n' t' j' q'
          by_cases ej : j = j'
          · subst ej
            obtain ⟨rfl, rfl⟩ := fidx_inj r2 q'
            exact ⟨v', by rw [List.getElem?_set_self hj], F.same W⟩
          · refine ⟨u, by rw [List.getElem?_set_ne ej]; exact hu, F'.other W (Or.inr ?_)⟩
            obtain ⟨-, ty', p'⟩ := lay_mem (fidx_mem q')
            refine slot_ne (LL (fidx_mem q')) (LL (fidx_mem r2)) (fun en => ?_) p' r3
            rcases r6 n' t' (fidx_mem q') with g | g
            · exact g en
            · subst en g; rw [r2] at q'; exact ej (Option.some.inj q')
        refine ⟨T', _, ?_, by rw [e']; exact Wr.upd S W O', Fr.snoc X' N (adr_ge hk), st'⟩
        show Stand p l e R s m args below meth c T' _ (cells + ((H.set a (.object C, vs.set j v')).length - H.length)) (slots + (tot ws (H.set a (.object C, vs.set j v')) - tot ws H))
        rw [List.length_set, tot_set (o := (.object C, vs)) (o' := (.object C, vs.set j v')) q2 rfl, Nat.sub_self, Nat.sub_self]
        exact X'
      · cases hs
    · cases hs
  · cases hs
theorem hNew_sound (hw : ∀ d ∈ ws, d.before a0 Z = true) (X : Stand p l e R s m args below meth c T locs cells slots) (hx : p.tables.exec = Jvm.exec) (hZ : Z.Warmed39 s.vm) (hown : s.vm.findClass y.cls = some m.cls)
    {i : Nat} (hd : decode c.code pc = .ok (.new i, 3)) {q : Nat × List Value × AHeap} (hs : hNew ws y.cls i pc H st = some q) (S : Sim Z ws k sa n0 H T.heap) (N : Fr n0 locs)
    (hc : cells + (q.2.2.length - H.length) ≤ R.cells) (hl : slots + (tot ws q.2.2 - tot ws H) ≤ R.slots) (hz0 : T.heap.size = s.heap.size + cells) :
    Beh p l e R s m args below meth c T Z ws k sa n0 cells slots H (fr (adr k sa n0) m pc ls st) q.1 ls q.2.1 q.2.2 := by
  unfold hNew at hs
  split at hs
  · rename_i C q1
    split at hs
    · rename_i g; cases hs
      obtain ⟨ki, hki⟩ := Option.isSome_iff_exists.mp g.1
      have ec : (H ++ [(FieldType.object C, (olay ws C).map dflt)]).length - H.length = 1 := by simp
      have es : tot ws (H ++ [(FieldType.object C, (olay ws C).map dflt)]) - tot ws H = ki := by
        rw [tot_app]; simp [cost, hki]
      dsimp only at hc hl ⊢
      rw [ec] at hc; rw [es] at hl
      have hz := S.next
      obtain ⟨T', h', X', e', E, A, D, -, st'⟩ := newO X hx hZ hown (hw _ (rCls_mem q1)) (hw _ (rInst_mem hki)) (hw _ (hasInit_mem g.2)) rfl (g := fr (adr k sa n0) m pc ls st) rfl hd hc hl
      have hz' : h'.size = T.heap.size + 1 := by
        have u1 := X'.heapSize
        have a1 : (T.heap.size : Nat) < h'.size := A.lt
        rw [e'] at u1
        omega
      refine ⟨T', locs, by rw [ec, es]; exact X', ?_, N, ?_⟩
      · rw [e']
        refine S.push E hz' ⟨A, fun n t j q => ?_⟩
        have hm := fidx_mem q
        obtain ⟨q2, ty, q3⟩ := lay_mem hm
        refine ⟨dflt (n, t), by rw [List.getElem?_map, idx_get q]; rfl, ?_⟩
        have F := D (O := C) (nm := n) (d := t) (q2.imp (fun q => hw _ q) (fun q => hw _ q)) q3
        have e3 : ren (adr k sa n0) (dflt (n, t)) = defaultValue ty := by simp only [dflt, q3, ren_dflt]
        rw [e3]; exact F
      · intro target ht
        rw [hz] at st'
        exact st' target ht
    · cases hs
  · cases hs
theorem hNewA_sound (hw : ∀ d ∈ ws, d.before a0 Z = true) (X : Stand p l e R s m args below meth c T locs cells slots) (hx : p.tables.exec = Jvm.exec) (hZ : Z.Warmed39 s.vm)
    {aty : ArrayType} (hd : decode c.code pc = .ok (.newarray aty, 2)) {q : Nat × List Value × AHeap} (hs : hNewA ws aty pc H st = some q) (S : Sim Z ws k sa n0 H T.heap) (N : Fr n0 locs)
    (hc : cells + (q.2.2.length - H.length) ≤ R.cells) (hl : slots + (tot ws q.2.2 - tot ws H) ≤ R.slots) (hz0 : T.heap.size = s.heap.size + cells) :
    Beh p l e R s m args below meth c T Z ws k sa n0 cells slots H (fr (adr k sa n0) m pc ls st) q.1 ls q.2.1 q.2.2 := by
  unfold hNewA at hs
  split at hs
  · rename_i n r
    split at hs
    · rename_i g; cases hs
      obtain ⟨g1, g2, g3⟩ := g
      have ec : (H ++ [(FieldType.array (newarray.typeOf aty), List.replicate n.toNatClampNeg (defaultValue (newarray.typeOf aty)))]).length - H.length = 1 := by simp
      have es : tot ws (H ++ [(FieldType.array (newarray.typeOf aty), List.replicate n.toNatClampNeg (defaultValue (newarray.typeOf aty)))]) - tot ws H = n.toNatClampNeg := by
        rw [tot_app]; simp [cost]
      dsimp only at hc hl ⊢
      rw [ec] at hc; rw [es] at hl
      have hz := S.next
      obtain ⟨T', h', cA, X', e', E, A, st'⟩ := newP X hx hZ (hw _ (hasArr_mem g1)) rfl (g := fr (adr k sa n0) m pc ls (.int n :: r)) rfl hd rfl g2 (cap := n.toNatClampNeg) (Nat.le_refl _) g3 hc hl
      have hz' : h'.size = T.heap.size + 1 := by
        have u1 := X'.heapSize
        have a1 : (T.heap.size : Nat) < h'.size := A.lt
        rw [e'] at u1
        omega
      refine ⟨T', locs, by rw [ec, es]; exact X', ?_, N, ?_⟩
      · rw [e']
        refine S.push E hz' ⟨_, A, ?_⟩
        simp [newA, ren_dflt]
      · intro target ht
        rw [hz] at st'
        exact st' target ht
    · cases hs
  · cases hs
theorem hLd_some {ok : FieldType → Bool} {q : Nat × List Value × AHeap} (hs : hLd ok pc H st = some q) : ∃ j a r ty vs v, st = .int j :: .ref a :: r ∧ H[a]? = some (.array ty, vs) ∧ ok ty = true ∧ ¬ j < 0 ∧ vs[j.toNatClampNeg]? = some v ∧ q = (pc + 1, v :: r, H) := by
  unfold hLd at hs
  split at hs
  · split at hs
    · split at hs
      · rename_i g
        obtain ⟨v, h1, h2⟩ := Option.map_eq_some_iff.mp hs
        exact ⟨_, _, _, _, _, v, rfl, by assumption, g.1, g.2, h1, h2.symm⟩
      · cases hs
    · cases hs
  · cases hs
theorem hSt_some {ok : FieldType → Bool} {q : Nat × List Value × AHeap} (hs : hSt ok k pc H st = some q) : ∃ v j a r ty vs v', st = v :: .int j :: .ref a :: r ∧ H[a]? = some (.array ty, vs) ∧ ok ty = true ∧ k ≤ a ∧ ¬ j < 0 ∧ j.toNatClampNeg < vs.length ∧ putv ty v = some v' ∧ q = (pc + 1, r, H.set a (.array ty, vs.set j.toNatClampNeg v')) := by
  unfold hSt at hs
  split at hs
  · split at hs
    · split at hs
      · rename_i g
        obtain ⟨v, h1, h2⟩ := Option.map_eq_some_iff.mp hs
        exact ⟨_, _, _, _, _, _, v, rfl, by assumption, g.1, g.2.1, g.2.2.1, g.2.2.2, h1, h2.symm⟩
      · cases hs
    · cases hs
  · cases hs
theorem hLen_some {q : Nat × List Value × AHeap} (hs : hLen pc H st = some q) : ∃ a r ty vs, st = .ref a :: r ∧ H[a]? = some (.array ty, vs) ∧ q = (pc + 1, .int vs.length.toInt32 :: r, H) := by
  unfold hLen at hs
  split at hs
  · split at hs
    · cases hs; exact ⟨_, _, _, _, rfl, by assumption, rfl⟩
    · cases hs
  · cases hs
/-- behind a store into an array -/
theorem st_beh {T' : State} {h' : Heap} {a j : Nat} {ty : FieldType} {vs : List Value} {v' : Value} {r : List Value} {g : JFrame} (X' : Stand p l e R s m args below meth c T' (locs ++ [⟨adr k sa n0 a, j⟩]) cells slots) (e' : T'.heap = h') (W : Wr T.heap h' (adr k sa n0 a) j (ren (adr k sa n0) v'))
    (S : Sim Z ws k sa n0 H T.heap) (N : Fr n0 locs) (q2 : H[a]? = some (.array ty, vs)) (hk : k ≤ a)
    (st' : ∀ target, Steps p.tables e below (T'.setTop (fr (adr k sa n0) m (pc + 1) ls r)) target → Steps p.tables e below (T.setTop g) target) :
    Beh p l e R s m args below meth c T Z ws k sa n0 cells slots H g (pc + 1) ls r (H.set a (.array ty, vs.set j v')) := by
  obtain ⟨cl, A, es⟩ := S.2.2.2.2 a _ q2
  refine ⟨T', _, ?_, by rw [e']; exact Wr.upd S W ⟨_, A.same W, size_set cl j _ _ es rfl⟩, Fr.snoc X' N (adr_ge hk), st'⟩
  rw [List.length_set, tot_set (o := (.array ty, vs)) (o' := (.array ty, vs.set j v')) q2 (by simp [cost]), Nat.sub_self, Nat.sub_self]
  exact X'
set_option maxHeartbeats 1000000 in
theorem hstep_sound (hw : ∀ d ∈ ws, d.before a0 Z = true) (X : Stand p l e R s m args below meth c T locs cells slots) (hx : p.tables.exec = Jvm.exec) (hZ : Z.Warmed39 s.vm) (hown : s.vm.findClass y.cls = some m.cls) (hnm : meth.name = y.name)
    {ins : Instr} {len : Nat} (hd : decode c.code pc = .ok (ins, len)) {q : Nat × List Value × AHeap} (hs : hstep ws k y ins len pc st H = some q) (S : Sim Z ws k sa n0 H T.heap) (N : Fr n0 locs)
    (hc : cells + (q.2.2.length - H.length) ≤ R.cells) (hl : slots + (tot ws q.2.2 - tot ws H) ≤ R.slots) (hz0 : T.heap.size = s.heap.size + cells) :
    Beh p l e R s m args below meth c T Z ws k sa n0 cells slots H (fr (adr k sa n0) m pc ls st) q.1 ls q.2.1 q.2.2 := by
  unfold hstep at hs
  split at hs
  · obtain ⟨rfl, hs⟩ := chk_some hs
    exact hGet_sound hw X hx hZ hown hd hs S N
  · obtain ⟨rfl, hs⟩ := chk_some hs
    exact hPut_sound hw X hx hZ hown hnm hd hs S N
  · obtain ⟨rfl, hs⟩ := chk_some hs
    exact hNew_sound hw X hx hZ hown hd hs S N hc hl hz0
  · obtain ⟨rfl, hs⟩ := chk_some hs
    exact hNewA_sound hw X hx hZ hd hs S N hc hl hz0
  · obtain ⟨rfl, hs⟩ := chk_some hs
    obtain ⟨j, a, r, ty, vs, v, rfl, q2, ho, hj, hv, rfl⟩ := hLd_some hs
    obtain rfl : ty = _ := of_decide_eq_true ho
    obtain ⟨cl, A, es⟩ := S.2.2.2.2 a _ q2
    have hlt := (List.getElem?_eq_some_iff.mp hv).1
    exact Beh.stay X S N fun target ht => X.iaload hx (j := j) (v := ren (adr k sa n0) v) A.1 (State.isArrayOf_alike hZ.alike A.2.1) A.2.2 (fun g => g.elim hj fun g => by rw [es] at g; simp at g; omega) (by rw [es, List.getElem?_toArray, List.getElem?_map, hv]; rfl) (g := fr (adr k sa n0) m pc ls (.int j :: .ref a :: r)) rfl rfl hd target ht
  · obtain ⟨rfl, hs⟩ := chk_some hs
    obtain ⟨j, a, r, ty, vs, v, rfl, q2, ho, hj, hv, rfl⟩ := hLd_some hs
    obtain rfl : ty = _ := of_decide_eq_true ho
    obtain ⟨cl, A, es⟩ := S.2.2.2.2 a _ q2
    have hlt := (List.getElem?_eq_some_iff.mp hv).1
    exact Beh.stay X S N fun target ht => X.caload hx (j := j) (v := ren (adr k sa n0) v) A.1 (State.isArrayOf_alike hZ.alike A.2.1) A.2.2 (fun g => g.elim hj fun g => by rw [es] at g; simp at g; omega) (by rw [es, List.getElem?_toArray, List.getElem?_map, hv]; rfl) (g := fr (adr k sa n0) m pc ls (.int j :: .ref a :: r)) rfl rfl hd target ht
  · obtain ⟨rfl, hs⟩ := chk_some hs
    obtain ⟨j, a, r, ty, vs, v, rfl, q2, ho, hj, hv, rfl⟩ := hLd_some hs
    obtain rfl : ty = _ := of_decide_eq_true ho
    obtain ⟨cl, A, es⟩ := S.2.2.2.2 a _ q2
    have hlt := (List.getElem?_eq_some_iff.mp hv).1
    exact Beh.stay X S N fun target ht => X.laload hx (j := j) (v := ren (adr k sa n0) v) A.1 (State.isArrayOf_alike hZ.alike A.2.1) A.2.2 (fun g => g.elim hj fun g => by rw [es] at g; simp at g; omega) (by rw [es, List.getElem?_toArray, List.getElem?_map, hv]; rfl) (g := fr (adr k sa n0) m pc ls (.int j :: .ref a :: r)) rfl rfl hd target ht
  · obtain ⟨rfl, hs⟩ := chk_some hs
    obtain ⟨j, a, r, ty, vs, v, rfl, q2, ho, hj, hv, rfl⟩ := hLd_some hs
    obtain ⟨cl, A, es⟩ := S.2.2.2.2 a _ q2
    have hlt := (List.getElem?_eq_some_iff.mp hv).1
    simp only [okB, Bool.or_eq_true, decide_eq_true_eq] at ho
    rcases ho with rfl | rfl
    · exact Beh.stay X S N fun target ht => X.baloadBytes hx (j := j) (v := ren (adr k sa n0) v) A.1 (State.isArrayOf_alike hZ.alike A.2.1) A.2.2 (fun g => g.elim hj fun g => by rw [es] at g; simp at g; omega) (by rw [es, List.getElem?_toArray, List.getElem?_map, hv]; rfl) (g := fr (adr k sa n0) m pc ls (.int j :: .ref a :: r)) rfl rfl hd target ht
    · exact Beh.stay X S N fun target ht => X.baloadBooleans hx (j := j) (v := ren (adr k sa n0) v) A.1 (State.isArrayOf_alike hZ.alike A.2.1) A.2.2 (fun g => g.elim hj fun g => by rw [es] at g; simp at g; omega) (by rw [es, List.getElem?_toArray, List.getElem?_map, hv]; rfl) (g := fr (adr k sa n0) m pc ls (.int j :: .ref a :: r)) rfl rfl hd target ht
  · obtain ⟨rfl, hs⟩ := chk_some hs
    obtain ⟨v, j, a, r, ty, vs, v', rfl, q2, ho, hk, hj, hlt, hv, rfl⟩ := hSt_some hs
    obtain rfl : ty = _ := of_decide_eq_true ho
    obtain ⟨cl, A, es⟩ := S.2.2.2.2 a _ q2
    cases v <;> simp only [putv, Option.some.injEq, reduceCtorEq] at hv
    subst hv
    obtain ⟨T', h', X', e', W, st'⟩ := stI X hx hZ rfl A (j := j) (fun g => g.elim hj fun g => by rw [es] at g; simp at g; omega) (g := fr (adr k sa n0) m pc ls (.int _ :: .int j :: .ref a :: r)) rfl rfl hd
    exact st_beh X' e' W S N q2 hk st'
  · obtain ⟨rfl, hs⟩ := chk_some hs
    obtain ⟨v, j, a, r, ty, vs, v', rfl, q2, ho, hk, hj, hlt, hv, rfl⟩ := hSt_some hs
    obtain rfl : ty = _ := of_decide_eq_true ho
    obtain ⟨cl, A, es⟩ := S.2.2.2.2 a _ q2
    cases v <;> simp only [putv, Option.some.injEq, reduceCtorEq] at hv
    subst hv
    obtain ⟨T', h', X', e', W, st'⟩ := stC X hx hZ rfl A (j := j) (fun g => g.elim hj fun g => by rw [es] at g; simp at g; omega) (g := fr (adr k sa n0) m pc ls (.int _ :: .int j :: .ref a :: r)) rfl rfl hd
    exact st_beh X' e' W S N q2 hk st'
  · obtain ⟨rfl, hs⟩ := chk_some hs
    obtain ⟨v, j, a, r, ty, vs, v', rfl, q2, ho, hk, hj, hlt, hv, rfl⟩ := hSt_some hs
    obtain rfl : ty = _ := of_decide_eq_true ho
    obtain ⟨cl, A, es⟩ := S.2.2.2.2 a _ q2
    cases v <;> simp only [putv, Option.some.injEq, reduceCtorEq] at hv
    subst hv
    obtain ⟨T', h', X', e', W, st'⟩ := stJ X hx hZ rfl A (j := j) (fun g => g.elim hj fun g => by rw [es] at g; simp at g; omega) (g := fr (adr k sa n0) m pc ls (.long _ :: .int j :: .ref a :: r)) rfl rfl hd
    exact st_beh X' e' W S N q2 hk st'
  · obtain ⟨rfl, hs⟩ := chk_some hs
    obtain ⟨v, j, a, r, ty, vs, v', rfl, q2, ho, hk, hj, hlt, hv, rfl⟩ := hSt_some hs
    obtain ⟨cl, A, es⟩ := S.2.2.2.2 a _ q2
    simp only [okB, Bool.or_eq_true, decide_eq_true_eq] at ho
    rcases ho with rfl | rfl
    · cases v <;> simp only [putv, Option.some.injEq, reduceCtorEq] at hv
      subst hv
      obtain ⟨T', h', X', e', W, st'⟩ := stB X hx hZ rfl A (j := j) (fun g => g.elim hj fun g => by rw [es] at g; simp at g; omega) (g := fr (adr k sa n0) m pc ls (.int _ :: .int j :: .ref a :: r)) rfl rfl hd
      exact st_beh X' e' W S N q2 hk st'
    · cases v <;> simp only [putv, Option.some.injEq, reduceCtorEq] at hv
      subst hv
      obtain ⟨T', h', X', e', W, st'⟩ := stZ X hx hZ rfl A (j := j) (fun g => g.elim hj fun g => by rw [es] at g; simp at g; omega) (g := fr (adr k sa n0) m pc ls (.int _ :: .int j :: .ref a :: r)) rfl rfl hd
      exact st_beh X' e' W S N q2 hk st'
  · obtain ⟨rfl, hs⟩ := chk_some hs
    obtain ⟨a, r, ty, vs, rfl, q2, rfl⟩ := hLen_some hs
    obtain ⟨cl, A, es⟩ := S.2.2.2.2 a _ q2
    have ez : cl.slots.size = vs.length := by rw [es]; simp
    refine Beh.stay X S N fun target ht => X.arraylength hx (cell := cl) A.1 (State.isArrayOf_alike hZ.alike A.2.1) (g := fr (adr k sa n0) m pc ls (.ref a :: r)) rfl rfl hd target ?_
    rw [ez]; exact ht
  · obtain ⟨rfl, hs⟩ := chk_some hs
    obtain ⟨v, hv, rfl⟩ := Option.map_eq_some_iff.mp hs
    exact Beh.stay X S N (X.ldcInt hx hown (mvT hZ (hw _ (rCon_mem hv))) (g := fr (adr k sa n0) m pc ls st) rfl hd)
  · obtain ⟨rfl, hs⟩ := chk_some hs
    obtain ⟨v, hv, rfl⟩ := Option.map_eq_some_iff.mp hs
    exact Beh.stay X S N (X.ldcwInt hx hown (mvT hZ (hw _ (rCon_mem hv))) (g := fr (adr k sa n0) m pc ls st) rfl hd)
  · obtain ⟨rfl, hs⟩ := chk_some hs
    obtain ⟨v, hv, rfl⟩ := Option.map_eq_some_iff.mp hs
    exact Beh.stay X S N (X.ldc2Long hx hown (mvT hZ (hw _ (rConL_mem hv))) (g := fr (adr k sa n0) m pc ls st) rfl hd)
  · cases hs
end H
theorem hstep_size {ws : Ws} {k : Nat} {y : MethodName} {ins : Instr} {len pc : Nat} {st : List Value} {H : AHeap} {q : Nat × List Value × AHeap} (hs : hstep ws k y ins len pc st H = some q) : H.length ≤ q.2.2.length ∧ tot ws H ≤ tot ws q.2.2 := by
  unfold hstep at hs
  split at hs
  · obtain ⟨rfl, hs⟩ := chk_some hs
    unfold hGet at hs
    split at hs
    · split at hs
      · split at hs
        · obtain ⟨v, -, rfl⟩ := Option.map_eq_some_iff.mp hs; exact ⟨Nat.le_refl _, Nat.le_refl _⟩
        · cases hs
      · cases hs
    · cases hs
  · obtain ⟨rfl, hs⟩ := chk_some hs
    unfold hPut at hs
    split at hs
    · split at hs
      · rename_i C j ty C' vs q1 q2
        split at hs
        · obtain ⟨v, -, rfl⟩ := Option.map_eq_some_iff.mp hs
          exact ⟨Nat.le_of_eq (by rw [List.length_set]), Nat.le_of_eq (tot_set (o := (.object C', vs)) (o' := (.object C', vs.set j v)) q2 rfl).symm⟩
        · cases hs
      · cases hs
    · cases hs
  · obtain ⟨rfl, hs⟩ := chk_some hs
    unfold hNew at hs
    split at hs
    · split at hs
      · cases hs; exact ⟨by simp, by rw [tot_app]; omega⟩
      · cases hs
    · cases hs
  · obtain ⟨rfl, hs⟩ := chk_some hs
    unfold hNewA at hs
    split at hs
    · split at hs
      · cases hs; exact ⟨by simp, by rw [tot_app]; omega⟩
      · cases hs
    · cases hs
  all_goals first
    | (obtain ⟨rfl, hs⟩ := chk_some hs; obtain ⟨j, a, r, ty, vs, v, rfl, q2, ho, hj, hv, rfl⟩ := hLd_some hs; exact ⟨Nat.le_refl _, Nat.le_refl _⟩)
    | (obtain ⟨rfl, hs⟩ := chk_some hs; obtain ⟨v, j, a, r, ty, vs, v', rfl, q2, ho, hk, hj, hlt, hv, rfl⟩ := hSt_some hs; exact ⟨Nat.le_of_eq (by rw [List.length_set]), Nat.le_of_eq (tot_set (o := (.array ty, vs)) (o' := (.array ty, vs.set _ v')) q2 (by simp [cost])).symm⟩)
    | (obtain ⟨rfl, hs⟩ := chk_some hs; obtain ⟨a, r, ty, vs, rfl, q2, rfl⟩ := hLen_some hs; exact ⟨Nat.le_refl _, Nat.le_refl _⟩)
    | (obtain ⟨rfl, hs⟩ := chk_some hs; obtain ⟨v, hv, rfl⟩ := Option.map_eq_some_iff.mp hs; exact ⟨Nat.le_refl _, Nat.le_refl _⟩)
    | (cases hs; done)
end Jvm.Own
namespace Jvm.Own
open Sem ClassFile Op Lib Jvm.Stand Jvm.Free Jvm.LawKit Jvm.RoadKit
/-! OWN 5: the run is the machine's -/
theorem ent_ren (f : Nat → Nat) : ∀ as : List Value, ent (as.map (ren f)) = (ent as).map (renS f)
  | [] => rfl
  | v :: r => by
    simp only [List.map_cons, ent, ren_cat, ent_ren f r]
    split <;> rfl
theorem fill_eq : ∀ (as : List Value) (acc : Array Slot), as.foldl (fun acc v => if v.category = 2 then (acc.push (.val v)).push .second else acc.push (.val v)) acc = acc ++ (ent as).toArray
  | [], acc => by simp [ent]
  | v :: r, acc => by
    simp only [List.foldl_cons, ent]
    split
    · rw [fill_eq r]; simp [← Array.toList_inj]
    · rw [fill_eq r]; simp [← Array.toList_inj]
theorem entry_eq (f : Nat → Nat) (m : MethodId) (as : List Value) (mx : Nat) : entryFrame m (as.map (ren f)).toArray mx = fr f m 0 (entry as mx) [] := by
  have h : argsToLocals (as.map (ren f)).toArray mx = ((entry as mx).map (renS f)).toArray := by
    unfold argsToLocals entry
    simp only [List.foldl_toArray']
    rw [fill_eq, ent_ren]
    simp [← Array.toList_inj, renS]
  unfold entryFrame
  rw [h]; rfl
theorem entry_len {as : List Value} {mx : Nat} (h : (ent as).length ≤ mx) : (entry as mx).length = mx := by simp [entry]; omega
theorem wsum_ren (f : Nat → Nat) (st : List Value) : ((st.map (ren f)).map fun v => v.category).sum = wsum st := by
  unfold wsum
  rw [List.map_map]
  congr 1
  apply List.map_congr_left
  intro v _
  exact ren_cat f v
section Inv
variable {ws : Ws} {dn : Dn} {k : Nat} {y : MethodName} {bytes : ByteArray} {ret : Option FieldType} {pc : Nat} {ls : List Slot} {st : List Value} {H : AHeap}
theorem cR_some {i : Nat} {y' : MethodName} {b : ByteArray} {mx na sl : Nat} {r : Option FieldType} (h : cR ws dn y i = some (y', b, mx, r, na, sl)) :
    Jvm.Cond.methodLink y.cls i y' ∈ ws ∧ Jvm.Cond.code y' b mx r ∈ ws ∧ Jvm.Cond.initialized y'.cls ∈ ws ∧ Jvm.plainName y'.cls = true ∧ (y'.cls ≠ "java/lang/invoke/MethodHandle" ∧ y'.cls ≠ "java/lang/invoke/VarHandle") ∧ rCode ws y' = some (b, mx, r) ∧
    ∃ f' l' f l sig, dnOf dn y' = some (f', l') ∧ dnOf dn y = some (f, l) ∧ parseMethodDescriptor y'.desc = some sig ∧ na = sig.parameters.length ∧ f' + 1 ≤ f ∧ sl + (mx + 11) + l' ≤ l := by
  unfold cR at h
  split at h
  · cases h
  · rename_i z q1
    split at h
    · rename_i b' mx' r' f' l' f l sig q2 q3 q4 q5
      split at h
      · rename_i g
        cases h
        obtain ⟨g1, g2, g3, g4, g5, g6⟩ := g
        exact ⟨rMth_mem q1, rCode_mem q2, hasInit_mem g1, g2, ⟨g3, g4⟩, q2, f', l', f, l, sig, q3, q4, q5, rfl, g5, by omega⟩
      · cases h
    · cases h
theorem act_ret {v : Option Value} (h : act ws dn k y bytes ret pc ls st H = some (.inl v)) : (∃ z r t, decode bytes pc = .ok (.ireturn, 1) ∧ st = .int z :: r ∧ ret = some t ∧ (t = .int ∨ t = .boolean ∨ t = .byte ∨ t = .char ∨ t = .short) ∧ v = some (.int (nar t z))) ∨
    (∃ z, decode bytes pc = .ok (.lreturn, 1) ∧ st = [.long z] ∧ ret = some .long ∧ v = some (.long z)) ∨ (decode bytes pc = .ok (.return_, 1) ∧ st = [] ∧ ret = none ∧ v = none) := by
  unfold act at h
  split at h
  · cases h
  rename_i ins len hd
  split at h
  · cases h
  split at h
  · cases h
  unfold cstep at h
  split at h
  · obtain ⟨rfl, h⟩ := chk_some h
    split at h
    · split at h
      · rename_i g; cases h; exact Or.inl ⟨_, _, _, hd, rfl, rfl, g, rfl⟩
      · cases h
    · cases h
  · obtain ⟨rfl, h⟩ := chk_some h
    split at h
    · cases h; exact Or.inr (Or.inl ⟨_, hd, rfl, rfl, rfl⟩)
    · cases h
  · obtain ⟨rfl, h⟩ := chk_some h
    split at h
    · cases h; exact Or.inr (Or.inr ⟨hd, rfl, rfl, rfl⟩)
    · cases h
  · obtain ⟨rfl, h⟩ := chk_some h
    split at h
    · split at h <;> cases h
    · cases h
  · obtain ⟨rfl, h⟩ := chk_some h
    split at h
    · split at h
      · split at h <;> cases h
      · cases h
    · split at h
      · split at h
        · split at h <;> cases h
        · cases h
      · cases h
  · obtain ⟨rfl, h⟩ := chk_some h
    split at h
    · split at h
      · split at h
        · split at h <;> cases h
        · cases h
      · cases h
    · cases h
  · cases h
theorem act_step {pc' : Nat} {ls' : List Slot} {st' : List Value} {H' : AHeap} (h : act ws dn k y bytes ret pc ls st H = some (.inr (.inl (pc', ls', st', H')))) : ∃ ins len, decode bytes pc = .ok (ins, len) ∧
    ((xstep ins len pc ls st = some (pc', ls', st') ∧ H' = H) ∨ (ls' = ls ∧ hstep ws k y ins len pc st H = some (pc', st', H')) ∨
     (∃ i sl a r, ins = .invokespecial i ∧ len = 3 ∧ oR ws dn y i = some sl ∧ st = .ref a :: r ∧ wsum r ≤ sl ∧ pc' = pc + 3 ∧ ls' = ls ∧ st' = r ∧ H' = H)) := by
  unfold act at h
  split at h
  · cases h
  rename_i ins len hd
  refine ⟨ins, len, hd, ?_⟩
  split at h
  · rename_i g; cases h; exact Or.inl ⟨g, rfl⟩
  split at h
  · rename_i g; cases h; exact Or.inr (Or.inl ⟨rfl, g⟩)
  unfold cstep at h
  split at h
  · obtain ⟨rfl, h⟩ := chk_some h
    split at h
    · split at h <;> cases h
    · cases h
  · obtain ⟨rfl, h⟩ := chk_some h
    split at h <;> cases h
  · obtain ⟨rfl, h⟩ := chk_some h
    split at h <;> cases h
  · obtain ⟨rfl, h⟩ := chk_some h
    split at h
    · split at h <;> cases h
    · cases h
  · obtain ⟨rfl, h⟩ := chk_some h
    split at h
    · rename_i sl ho
      split at h
      · split at h
        · rename_i g; cases h; exact Or.inr (Or.inr ⟨_, sl, _, _, rfl, rfl, ho, rfl, g, rfl, rfl, rfl, rfl⟩)
        · cases h
      · cases h
    · split at h
      · split at h
        · split at h <;> cases h
        · cases h
      · cases h
  · obtain ⟨rfl, h⟩ := chk_some h
    split at h
    · split at h
      · split at h
        · split at h <;> cases h
        · cases h
      · cases h
    · cases h
  · cases h
/-- the three kinds of call -/
theorem act_call {y' : MethodName} {b : ByteArray} {r : Option FieldType} {en : List Slot} {rest : List Value} (h : act ws dn k y bytes ret pc ls st H = some (.inr (.inr (y', b, r, en, rest)))) : ∃ i mx na sl as, cR ws dn y i = some (y', b, mx, r, na, sl) ∧ en = entry as mx ∧ (ent as).length ≤ mx ∧ wsum rest ≤ sl ∧
    ((decode bytes pc = .ok (.invokestatic i, 3) ∧ Jvm.Cond.static y' ∈ ws ∧ as.length = na ∧ st = as.reverse ++ rest) ∨
     (∃ a as', as = .ref a :: as' ∧ as'.length = na ∧ st = as'.reverse ++ .ref a :: rest ∧ Jvm.Cond.instanceMethod y' ∈ ws ∧
      ((decode bytes pc = .ok (.invokespecial i, 3) ∧ y'.name = "<init>" ∧ r = none) ∨
       (decode bytes pc = .ok (.invokevirtual i, 3) ∧ ∃ C vs, H[a]? = some (.object C, vs) ∧ ((Jvm.Cond.privateMethod y' ∈ ws ∧ ∃ ki, Jvm.Cond.instantiable y'.cls ki ∈ ws) ∨ (Jvm.Cond.declares y' ∈ ws ∧ Jvm.Cond.selects y'.cls y' y' ∈ ws ∧ C = y'.cls)))))) := by
  unfold act at h
  split at h
  · cases h
  rename_i ins len hd
  split at h
  · cases h
  split at h
  · cases h
  unfold cstep at h
  split at h
  · obtain ⟨rfl, h⟩ := chk_some h
    split at h
    · split at h <;> cases h
    · cases h
  · obtain ⟨rfl, h⟩ := chk_some h
    split at h <;> cases h
  · obtain ⟨rfl, h⟩ := chk_some h
    split at h <;> cases h
  · rename_i i _ _
    obtain ⟨rfl, h⟩ := chk_some h
    split at h
    · rename_i y1 b1 mx r1 na sl hq
      split at h
      · rename_i g
        cases h
        unfold sR at hq
        split at hq
        · rename_i q hc
          split at hq
          · rename_i hs
            cases hq
            refine ⟨i, mx, na, sl, _, hc, rfl, g.2.2, g.2.1, Or.inl ⟨hd, hasStat_mem hs, by simp; omega, by simp⟩⟩
          · cases hq
        · cases hq
      · cases h
    · cases h
  · rename_i i _ _
    obtain ⟨rfl, h⟩ := chk_some h
    split at h
    · split at h
      · split at h <;> cases h
      · cases h
    · split at h
      · rename_i y1 b1 mx r1 na sl hq
        split at h
        · rename_i a rest' hdrop
          split at h
          · rename_i g
            cases h
            unfold nR at hq
            split at hq
            · rename_i q hc
              split at hq
              · rename_i hs
                cases hq
                refine ⟨i, mx, na, sl, _, hc, rfl, g.2.1, g.1, Or.inr ⟨a, _, rfl, by simp; omega, ?_, hasIM_mem hs.2.1, Or.inl ⟨hd, hs.1, hs.2.2⟩⟩⟩
                rw [List.reverse_reverse, ← hdrop, List.take_append_drop]
              · cases hq
            · cases hq
          · cases h
        · cases h
      · cases h
  · rename_i i _ _
    obtain ⟨rfl, h⟩ := chk_some h
    split at h
    · rename_i pv y1 b1 mx r1 na sl hq
      split at h
      · rename_i a rest' hdrop
        split at h
        · rename_i C vs hH
          split at h
          · rename_i g
            cases h
            unfold vR at hq
            split at hq
            · rename_i q hc
              split at hq
              · rename_i hs
                split at hq
                · rename_i hp; cases hq
                  obtain ⟨ki, hki⟩ := Option.isSome_iff_exists.mp hp.2
                  exact ⟨i, mx, na, sl, _, hc, rfl, g.2.2.1, g.2.1, Or.inr ⟨a, _, rfl, by simp; omega, by rw [List.reverse_reverse, ← hdrop, List.take_append_drop], hasIM_mem hs, Or.inr ⟨hd, C, vs, hH, Or.inl ⟨hasPriv_mem hp.1, ki, rInst_mem hki⟩⟩⟩⟩
                · split at hq
                  · rename_i hp; cases hq
                    exact ⟨i, mx, na, sl, _, hc, rfl, g.2.2.1, g.2.1, Or.inr ⟨a, _, rfl, by simp; omega, by rw [List.reverse_reverse, ← hdrop, List.take_append_drop], hasIM_mem hs, Or.inr ⟨hd, C, vs, hH, Or.inr ⟨hasDecl_mem hp.1, hasSel_mem hp.2, g.1.resolve_left (by simp)⟩⟩⟩⟩
                  · cases hq
              · cases hq
            · cases hq
          · cases h
        · cases h
      · cases h
    · cases h
  · cases h
theorem act_size {pc' : Nat} {ls' : List Slot} {st' : List Value} {H' : AHeap} (h : act ws dn k y bytes ret pc ls st H = some (.inr (.inl (pc', ls', st', H')))) : H.length ≤ H'.length ∧ tot ws H ≤ tot ws H' ∧ ls'.length = ls.length := by
  obtain ⟨ins, len, hd, ⟨g, rfl⟩ | ⟨rfl, g⟩ | ⟨i, sl, a, r, -, -, -, -, -, -, rfl, -, rfl⟩⟩ := act_step h
  · exact ⟨Nat.le_refl _, Nat.le_refl _, xstep_size g⟩
  · have := hstep_size g; exact ⟨this.1, this.2, rfl⟩
  · exact ⟨Nat.le_refl _, Nat.le_refl _, rfl⟩
end Inv
theorem run_size {ws : Ws} {dn : Dn} {k : Nat} : ∀ {n : Nat} {y : MethodName} {bytes : ByteArray} {ret : Option FieldType} {pc : Nat} {ls : List Slot} {st : List Value} {H : AHeap} {v : Option Value} {H' : AHeap}, run ws dn k n y bytes ret pc ls st H = some (v, H') → H.length ≤ H'.length ∧ tot ws H ≤ tot ws H'
  | 0, _, _, _, _, _, _, _, _, _, h => by cases h
  | n + 1, y, bytes, ret, pc, ls, st, H, v, H', h => by
    rw [run] at h
    split at h
    · cases h
    · cases h; exact ⟨Nat.le_refl _, Nat.le_refl _⟩
    · rename_i g
      have h1 := run_size h
      have h2 := act_size g
      exact ⟨Nat.le_trans h2.1 h1.1, Nat.le_trans h2.2.1 h1.2⟩
    · split at h
      · rename_i g
        have h1 := run_size h
        have h2 := run_size g
        exact ⟨Nat.le_trans h2.1 h1.1, Nat.le_trans h2.2 h1.2⟩
      · cases h
section Snd
/-- from here on the machine comes to a return of v with the heap H' -/
def Goes (p : Program) (l : Launch) (e : Env) (R : Room) (s : State) (m : MethodId) (args : Array Value) (below : List Frame) (meth : Method) (c : Code) (T : State) (Z : State) (ws : Ws) (k sa n0 cells slots : Nat) (H : AHeap) (g : JFrame) (ret : Option FieldType) (v : Option Value) (H' : AHeap) : Prop :=
  ∃ T' locs', Stand p l e R s m args below meth c T' locs' (cells + (H'.length - H.length)) (slots + (tot ws H' - tot ws H)) ∧ Sim Z ws k sa n0 H' T'.heap ∧ Fr n0 locs' ∧ (ret = none → v = none) ∧
    ∀ fs, (∀ (fj : JFrame) (acts : List Action), fj.method = m → fj.locked = none → fj.entered = [] → (doReturn e (T'.setTop fj) acts (v.map (ren (adr k sa n0)))).1 = T'.setFrames fs) → Steps p.tables e below (T.setTop g) (T'.setFrames fs)
variable {p : Program} {l : Launch} {e : Env} {R : Room} {s : State} {m : MethodId} {args : Array Value} {below : List Frame} {meth : Method} {c : Code} {T : State} {locs : List Loc} {cells slots : Nat}
  {Z : State} {a0 : Array Value} {ws : Ws} {dn : Dn} {k sa n0 : Nat}
theorem Goes.of {T1 : State} {H H1 H' : AHeap} {g g1 : JFrame} {ret : Option FieldType} {v : Option Value} (hst : ∀ target, Steps p.tables e below (T1.setTop g1) target → Steps p.tables e below (T.setTop g) target)
    (G : Goes p l e R s m args below meth c T1 Z ws k sa n0 (cells + (H1.length - H.length)) (slots + (tot ws H1 - tot ws H)) H1 g1 ret v H') (m1 : H.length ≤ H1.length ∧ tot ws H ≤ tot ws H1) (m2 : H1.length ≤ H'.length ∧ tot ws H1 ≤ tot ws H') :
    Goes p l e R s m args below meth c T Z ws k sa n0 cells slots H g ret v H' := by
  obtain ⟨T', locs', X', S', N', hv, go⟩ := G
  have e1 : cells + (H1.length - H.length) + (H'.length - H1.length) = cells + (H'.length - H.length) := by omega
  have e2 : slots + (tot ws H1 - tot ws H) + (tot ws H' - tot ws H1) = slots + (tot ws H' - tot ws H) := by omega
  rw [e1, e2] at X'
  exact ⟨T', locs', X', S', N', hv, fun fs hf => hst _ (go fs hf)⟩
def Snd (Z : State) (ws : Ws) (dn : Dn) (k sa n0 n : Nat) : Prop :=
  ∀ (y : MethodName) (bytes : ByteArray) (ret : Option FieldType) (pc : Nat) (ls : List Slot) (st : List Value) (H : AHeap) (v : Option Value) (H' : AHeap), run ws dn k n y bytes ret pc ls st H = some (v, H') →
  ∀ (p : Program) (l : Launch) (e : Env) (R : Room) (s : State) (m : MethodId) (args : Array Value) (below : List Frame) (meth : Method) (c : Code) (T : State) (locs : List Loc) (cells slots : Nat),
    Stand p l e R s m args below meth c T locs cells slots → p.tables.exec = Jvm.exec → Z.Warmed39 s.vm → s.vm.findClass y.cls = some m.cls → meth.name = y.name → meth.sig.returnType = ret → c.code = bytes → ls.length = c.maxLocals →
    (∀ f lc, dnOf dn y = some (f, lc) → f ≤ R.frames ∧ lc ≤ R.locals) → Sim Z ws k sa n0 H T.heap → Fr n0 locs → cells + (H'.length - H.length) ≤ R.cells → slots + (tot ws H' - tot ws H) ≤ R.slots → T.heap.size = s.heap.size + cells →
    Goes p l e R s m args below meth c T Z ws k sa n0 cells slots H (fr (adr k sa n0) m pc ls st) ret v H'
theorem met_of {n : Nat} (ih : Snd Z ws dn k sa n0 n) (l : Launch) {y : MethodName} {b : ByteArray} {mx f lc : Nat} {r : Option FieldType} (wsx : List Jvm.Cond) (hp : Jvm.plainName y.cls = true) {as : List Value} (he : (ent as).length ≤ mx) {H H1 : AHeap} {v : Option Value}
    (hrun : run ws dn k n y b r 0 (entry as mx) [] H = some (v, H1)) (hdn : ∀ f' l', dnOf dn y = some (f', l') → f' ≤ f ∧ l' ≤ lc) {h : Heap} (S : Sim Z ws k sa n0 H h) {rc rs : Nat} (hc : H1.length - H.length ≤ rc) (hs : tot ws H1 - tot ws H ≤ rs) :
    MetFree l y (head1 (Jvm.Cond.code y b mx r :: wsx) ({ frames := f, cells := rc, slots := rs, locals := lc } : Room)) (fun a U => a = (as.map (ren (adr k sa n0))).toArray ∧ Z.Warmed39 U.vm ∧ U.heap = h) (fun _ _ _ _ _ => True)
      (fun _ U o U' => ∃ w L, o = .returned w ∧ (w = v.map (ren (adr k sa n0)) ∧ Sim Z ws k sa n0 H1 U'.heap ∧ Fr n0 L) ∧ FrameEnd U o U' L (H1.length - H.length) (tot ws H1 - tot ws H)) := by
  refine MetFree.of_bodySF (plainFor_of_name hp) hisR ?_
  intro p e s m args below meth c s₁ Bd hml0 hP hK
  obtain ⟨rfl, hZ, hh⟩ := hP
  have hown : s.vm.findClass y.cls = some m.cls := findClass_of_methodNamed Bd.named
  have hnm := (name_of_methodNamed Bd.named Bd.method).1
  have X0 : Stand p l e ({ frames := f, cells := rc, slots := rs, locals := lc } : Room) s m (as.map (ren (adr k sa n0))).toArray below meth c s₁ [] 0 0 := Stand.of_body Bd
  have e0 : s₁.heap = h := by rw [← hh, Bd.state]; rfl
  obtain ⟨T', locs', X', S', N', hv, go⟩ := ih y b r 0 (entry as mx) [] H v H1 hrun p l e _ s m _ below meth c s₁ [] 0 0 X0 Bd.exec hZ hown hnm Bd.returns Bd.bytes (by rw [entry_len he]; exact hml0.symm) hdn (by rw [e0]; exact S) (Fr.nil n0) (by rw [Nat.zero_add]; exact hc) (by rw [Nat.zero_add]; exact hs) (by rw [e0, ← hh, Nat.add_zero])
  obtain ⟨fs, hr, hrun', hended, hW, hsame⟩ := X'.leave (v := v.map (ren (adr k sa n0))) (fun hn => by rw [Bd.returns] at hn; rw [hv hn]; rfl)
  refine ⟨_, _, castTop (entry_eq _ m as mx) (go fs hr), hrun', hended, _, locs', rfl, ⟨rfl, S', N'⟩, ⟨_, rfl⟩, hW, hsame.mono (Nat.le_of_eq (Nat.zero_add _)) (Nat.le_of_eq (Nat.zero_add _))⟩
set_option maxHeartbeats 2000000 in
theorem snd (hw : ∀ d ∈ ws, d.before a0 Z = true) : ∀ n, Snd Z ws dn k sa n0 n
  | 0 => fun y bytes ret pc ls st H v H' h => by cases h
  | n + 1 => fun y bytes ret pc ls st H v H' h p l e R s m args below meth c T locs cells slots X hx hZ hown hnm hret hby hls hF S N hc hl hz0 => by
    have ih := snd hw n
    rw [run] at h
    split at h
    · cases h
    · rename_i v' ha
      cases h
      have stay : ∀ {v : Option Value}, (ret = none → v = none) → (∀ fs, (∀ (fj : JFrame) (acts : List Action), fj.method = m → fj.locked = none → fj.entered = [] → (doReturn e (T.setTop fj) acts (v.map (ren (adr k sa n0)))).1 = T.setFrames fs) → Steps p.tables e below (T.setTop (fr (adr k sa n0) m pc ls st)) (T.setFrames fs)) →
          Goes p l e R s m args below meth c T Z ws k sa n0 cells slots H (fr (adr k sa n0) m pc ls st) ret v H := fun hv hg => ⟨T, locs, by rw [Nat.sub_self, Nat.sub_self]; exact X, S, N, hv, hg⟩
      rcases act_ret ha with ⟨z, r, t, hd, rfl, rfl, ht, rfl⟩ | ⟨z, hd, rfl, rfl, rfl⟩ | ⟨hd, rfl, rfl, rfl⟩
      · refine stay (fun h => by cases h) fun fs hf => ?_
        rcases ht with rfl | ht
        · exact retOut X hx hret (w := .int z) (rest := r.map (ren (adr k sa n0))) rfl (Or.inl ⟨rfl, Or.inl rfl, z, rfl⟩) (hb hby hd) hf
        · exact retN X hx hret ht (hb hby hd) hf
      · exact stay (fun h => by cases h) fun fs hf => retOut X hx hret (w := .long z) (rest := []) rfl (Or.inr (Or.inl ⟨rfl, rfl, z, rfl⟩)) (hb hby hd) hf
      · exact stay (fun _ => rfl) fun fs hf => X.returnOut hx hret (hb hby hd) hf
    · rename_i pc' ls' st' H1 ha
      have m1 := act_size ha
      have m2 := run_size h
      obtain ⟨ins, len, hd, ⟨g, rfl⟩ | ⟨rfl, g⟩ | ⟨i, sl, a, r, rfl, rfl, ho, rfl, hW, rfl, rfl, rfl, rfl⟩⟩ := act_step ha
      · obtain ⟨T', locs', X', S', N', hv, go⟩ := ih y bytes ret pc' ls' st' H1 v H' h p l e R s m args below meth c T locs cells slots X hx hZ hown hnm hret hby (m1.2.2.trans hls) hF S N hc hl hz0
        exact ⟨T', locs', X', S', N', hv, fun fs hf => xstep_sound X.here hx (adr k sa n0) (hb hby hd) g (go fs hf)⟩
      · obtain ⟨T1, locs1, X1, S1, N1, st1⟩ := hstep_sound (ls := ls') hw X hx hZ hown hnm (hb hby hd) g S N (by dsimp only; omega) (by dsimp only; omega) hz0
        dsimp only at X1 S1 st1
        have z1 := S.1
        have z2 := S1.1
        have z3 := S.2.1
        have G := ih y bytes ret pc' ls' st' H1 v H' h p l e R s m args below meth c T1 locs1 _ _ X1 hx hZ hown hnm hret hby hls hF S1 N1 (by omega) (by omega) (by omega)
        exact Goes.of st1 G ⟨m1.1, m1.2.1⟩ m2
      · unfold oR at ho
        split at ho
        · rename_i y1 b1 mx1 r1 f1 l1 q1 q2 q3
          split at ho
          · rename_i g
            cases ho
            obtain ⟨rfl, g2, g3, rfl, rfl, g4, g5⟩ := g
            obtain ⟨u1, u2⟩ := hF _ _ q3
            have eb : b1 = ⟨#[0xb1]⟩ := by cases b1; cases g3; rfl
            subst eb
            obtain ⟨T1, X1, e1, st1⟩ := initO X hx hZ hown (hw _ (rMth_mem q1)) (hw _ (hasIM_mem g2)) (hw _ (rCode_mem q2)) rfl (g := fr (adr k sa n0) m pc ls' (.ref a :: st')) rfl (by simp [hls]) rfl (hb hby hd) (by omega) (W := l1 - 12) (by show 2 * 0 + _ ≤ _; rw [wsum_ren]; omega) (by omega)
            have G := ih y bytes ret (pc + 3) ls' st' H1 v H' h p l e R s m args below meth c T1 locs cells slots X1 hx hZ hown hnm hret hby hls hF (by rw [e1]; exact S) N hc hl (by rw [e1]; exact hz0)
            obtain ⟨T', locs', X', S', N', hv, go⟩ := G
            exact ⟨T', locs', X', S', N', hv, fun fs hf => st1 _ (go fs hf)⟩
          · cases ho
        · cases ho
    · rename_i y' b r en rest ha
      split at h
      · rename_i v1 H1 h1
        have m1 := run_size h1
        have m2 := run_size h
        obtain ⟨i, mx, na, sl, as, hq, rfl, hen, hW, hk⟩ := act_call ha
        obtain ⟨w1, w2, w3, w4, w5, -, f', l', f, lc, sig, d1, d2, d3, d4, d5, d6⟩ := cR_some hq
        obtain ⟨u1, u2⟩ := hF _ _ d2
        have hM := met_of ih l [] w4 hen h1 (f := f') (lc := l') (fun f2 l2 q => by rw [d1] at q; cases q; exact ⟨Nat.le_refl _, Nat.le_refl _⟩) S (Nat.le_refl _) (Nat.le_refl _)
        have hB := backOf (R := R) (p := p) (e := e) (below := below) (s := s) (args := args) (len := 3) (W := sl) (rm := ({ frames := f', cells := H1.length - H.length, slots := tot ws H1 - tot ws H, locals := l' } : Room)) (Q := fun w h L => w = v1.map (ren (adr k sa n0)) ∧ Sim Z ws k sa n0 H1 h ∧ Fr n0 L) hM hZ (hw _ w2) (hw _ w3) (by show f' + 1 ≤ _; omega) (by show sl + (mx + 11) + l' ≤ _; omega)
        have hsz : (fr (adr k sa n0) m pc ls st).locals.size = c.maxLocals := by simp [hls]
        have hWW : ∀ st' : List Value, wsum st' ≤ sl → 2 * (fr (adr k sa n0) m pc ls st).monitorRoom + ((st'.map (ren (adr k sa n0))).map fun v => v.category).sum ≤ sl := fun st' q => by show 2 * 0 + _ ≤ _; rw [wsum_ren]; omega
        have hback : ∀ (v' : Option Value) (vm₁ : Vm) (B : Pt), Stand p l e R s m args below meth c B.U B.locs B.cells B.slots →
            (∃ L, (v' = v1.map (ren (adr k sa n0)) ∧ Sim Z ws k sa n0 H1 B.U.heap ∧ Fr n0 L) ∧ B.locs = locs ++ L ∧ B.cells = cells + (H1.length - H.length) ∧ B.slots = slots + (tot ws H1 - tot ws H)) →
            (∀ target, Steps p.tables e below (B.U.setTop { fr (adr k sa n0) m pc ls st with pc := pc + 3, stack := v'.toList ++ rest.map (ren (adr k sa n0)) }) target → Steps p.tables e below (T.setTop (fr (adr k sa n0) m pc ls st)) target) →
            Goes p l e R s m args below meth c T Z ws k sa n0 cells slots H (fr (adr k sa n0) m pc ls st) ret v H' := by
          rintro v' vm₁ ⟨T1, L1, k1, n1⟩ X1 ⟨Lc, ⟨rfl, S1, N1⟩, l1, y1, z1⟩ st1
          dsimp only [Pt.U, Pt.locs, Pt.cells, Pt.slots] at X1 l1 y1 z1 st1 S1
          subst l1 y1 z1
          have z1 := S.1
          have z2 := S1.1
          have z3 := S.2.1
          have G := ih y bytes ret (pc + 3) ls (v1.toList ++ rest) H1 v H' h p l e R s m args below meth c T1 _ _ _ X1 hx hZ hown hnm hret hby hls hF S1 (Fr.app N N1) (by omega) (by omega) (by omega)
          refine Goes.of (fun target ht => st1 target ?_) G m1 m2
          have e1 : (v1.toList ++ rest).map (ren (adr k sa n0)) = (v1.map (ren (adr k sa n0))).toList ++ rest.map (ren (adr k sa n0)) := by cases v1 <;> simp
          rw [← e1]; exact ht
        rcases hk with ⟨hd, ws1, hna, rfl⟩ | ⟨a, as', rfl, hna, rfl, wi, ⟨hd, hn, rfl⟩ | ⟨hd, C, vs, hH, hpd⟩⟩
        · obtain ⟨v', vm₁, B, -, X1, P1, st1⟩ := Jvm.LawKit.callS X hx (y := y') hown (mvT hZ (hw _ w1)) (mvT hZ (hw _ ws1)) (mvT hZ (hw _ w3)) (mvT hZ (hw _ w2)) w5 hB (g := fr (adr k sa n0) m pc ls (as.reverse ++ rest)) rfl hsz (argsL := as.map (ren (adr k sa n0))) (rest := rest.map (ren (adr k sa n0)))
            (fun sg hsg => by rw [d3] at hsg; cases hsg; simp [hna, d4]) (by simp) (hWW rest hW) (hb hby hd) (fun _ _ => ⟨rfl, rfl, by show cells + (H1.length - H.length) ≤ _; omega, by show slots + (tot ws H1 - tot ws H) ≤ _; omega⟩)
          exact hback v' vm₁ B X1 P1 st1
        · obtain ⟨v', vm₁, B, -, X1, P1, st1⟩ := X.specialBack hx (y := y') hn hown (mvT hZ (hw _ w1)) (mvT hZ (hw _ wi)) (mvT hZ (hw _ w2)) w5 hB (g := fr (adr k sa n0) m pc ls (as'.reverse ++ .ref a :: rest)) rfl hsz (Steps.refl _) (a := adr k sa n0 a) (argsL := as'.map (ren (adr k sa n0))) (rest := rest.map (ren (adr k sa n0)))
            (fun sg hsg => by rw [d3] at hsg; cases hsg; simp [hna, d4]) (by simp [ren]) (hWW rest hW) (hb hby hd) (fun _ _ => ⟨rfl, rfl, by show cells + (H1.length - H.length) ≤ _; omega, by show slots + (tot ws H1 - tot ws H) ≤ _; omega⟩)
          exact hback v' vm₁ B X1 P1 fun target ht => st1.trans ht
        · have E := (S.2.2.2.2 a _ hH).1
          rcases hpd with ⟨wp, ki, wki⟩ | ⟨wd, wsel, rfl⟩
          · obtain ⟨cq, hq1, hq2⟩ := E.cell
            have hpa : s.PrivateAt y' := Cond.privateMethod_at (mvP hZ (hw _ wp) (args := #[]))
            have hsel : (Jvm.Cond.selects y'.cls y' y').before args s = true := by
              have wz : (Jvm.Cond.instantiable y'.cls ki).before args s = true := mvT hZ (hw _ wki)
              obtain ⟨c2, k2, i1, i2, -, i4, -⟩ := Cond.instantiable_spec wz
              exact selects_self_of_private i1 i2 (Bool.or_eq_false_iff.mp i4).1 hpa (mvT hZ (hw _ wi)) w5
            obtain ⟨v', vm₁, B, -, X1, P1, st1⟩ := X.privateBack hx (y := y') hown (mvT hZ (hw _ w1)) (mvT hZ (hw _ wi)) hsel hpa (mvT hZ (hw _ w2)) w5 hB (g := fr (adr k sa n0) m pc ls (as'.reverse ++ .ref a :: rest)) rfl hsz (Steps.refl _) (a := adr k sa n0 a) hq1 hq2 (argsL := as'.map (ren (adr k sa n0))) (rest := rest.map (ren (adr k sa n0)))
              (fun sg hsg => by rw [d3] at hsg; cases hsg; simp [hna, d4]) (by simp [ren]) (hWW rest hW) (hb hby hd) (fun _ _ => ⟨rfl, rfl, by show cells + (H1.length - H.length) ≤ _; omega, by show slots + (tot ws H1 - tot ws H) ≤ _; omega⟩)
            exact hback v' vm₁ B X1 P1 fun target ht => st1.trans ht
          · obtain ⟨cq, kq, qa, qb, qc⟩ := isOf hZ rfl E
            obtain ⟨v', vm₁, B, -, X1, P1, st1⟩ := X.virtualBack hx (y := y') (z := y') hown (mvT hZ (hw _ w1)) (mvT hZ (hw _ wd)) (notFace_of_selects (args := #[]) (mvT hZ (hw _ wsel))) (mvT hZ (hw _ wsel)) (mvT hZ (hw _ wi)) w5 hB qa qc (g := fr (adr k sa n0) m pc ls (as'.reverse ++ .ref a :: rest)) rfl hsz (Steps.refl _) (argsL := as'.map (ren (adr k sa n0))) (rest := rest.map (ren (adr k sa n0)))
              (fun sg hsg => by rw [d3] at hsg; cases hsg; simp [hna, d4]) (by simp [ren]) (hWW rest hW) (hb hby hd) (fun _ _ => ⟨rfl, rfl, by show cells + (H1.length - H.length) ≤ _; omega, by show slots + (tot ws H1 - tot ws H) ≤ _; omega⟩)
            exact hback v' vm₁ B X1 P1 fun target ht => st1.trans ht
      · cases h
end Snd
end Jvm.Own
namespace Jvm.Own
open Sem ClassFile Op Lib Jvm.Stand Jvm.Free Jvm.LawKit Jvm.RoadKit
/-! OWN 6: from here on no machine is in sight -/
theorem run_succ {ws : Ws} {dn : Dn} {k : Nat} : ∀ {n : Nat} {y : MethodName} {bytes : ByteArray} {ret : Option FieldType} {pc : Nat} {ls : List Slot} {st : List Value} {H : AHeap} {r : Option Value × AHeap}, run ws dn k n y bytes ret pc ls st H = some r → run ws dn k (n + 1) y bytes ret pc ls st H = some r
  | 0, _, _, _, _, _, _, _, _, h => by cases h
  | n + 1, y, bytes, ret, pc, ls, st, H, r, h => by
    rw [run] at h
    rw [run]
    split at h
    · cases h
    · exact h
    · exact run_succ h
    · split at h
      · rename_i v H1 g
        rw [run_succ g]
        exact run_succ h
      · cases h
theorem run_mono {ws : Ws} {dn : Dn} {k n n' : Nat} {y : MethodName} {bytes : ByteArray} {ret : Option FieldType} {pc : Nat} {ls : List Slot} {st : List Value} {H : AHeap} {r : Option Value × AHeap} (hn : n ≤ n') (h : run ws dn k n y bytes ret pc ls st H = some r) : run ws dn k n' y bytes ret pc ls st H = some r := by
  induction hn with
  | refl => exact h
  | step _ ih => exact run_succ ih
/-- from here on a run comes to a return at which Q holds -/
def W (ws : Ws) (dn : Dn) (k : Nat) (y : MethodName) (bytes : ByteArray) (ret : Option FieldType) (pc : Nat) (ls : List Slot) (st : List Value) (H : AHeap) (Q : Option Value → AHeap → Prop) : Prop :=
  ∃ n v H', run ws dn k n y bytes ret pc ls st H = some (v, H') ∧ Q v H'
section
variable {ws : Ws} {dn : Dn} {k : Nat} {y : MethodName} {bytes : ByteArray} {ret : Option FieldType} {pc : Nat} {ls : List Slot} {st : List Value} {H : AHeap} {Q : Option Value → AHeap → Prop}
theorem W_step {pc' : Nat} {ls' : List Slot} {st' : List Value} {H' : AHeap} (h : act ws dn k y bytes ret pc ls st H = some (.inr (.inl (pc', ls', st', H')))) : W ws dn k y bytes ret pc ls st H Q = W ws dn k y bytes ret pc' ls' st' H' Q := by
  refine propext ⟨fun ⟨n, v, H1, h1, h2⟩ => ?_, fun ⟨n, v, H1, h1, h2⟩ => ⟨n + 1, v, H1, by rw [run, h]; exact h1, h2⟩⟩
  cases n with
  | zero => cases h1
  | succ n => rw [run, h] at h1; exact ⟨n, v, H1, h1, h2⟩
theorem W_ret {v : Option Value} (h : act ws dn k y bytes ret pc ls st H = some (.inl v)) : W ws dn k y bytes ret pc ls st H Q = Q v H := by
  refine propext ⟨fun ⟨n, v, H1, h1, h2⟩ => ?_, fun h2 => ⟨1, v, H, by rw [run, h], h2⟩⟩
  cases n with
  | zero => cases h1
  | succ n => rw [run, h] at h1; cases h1; exact h2
theorem W_call {y' : MethodName} {b : ByteArray} {r : Option FieldType} {en : List Slot} {rest : List Value} (h : act ws dn k y bytes ret pc ls st H = some (.inr (.inr (y', b, r, en, rest)))) :
    W ws dn k y bytes ret pc ls st H Q = W ws dn k y' b r 0 en [] H (fun v H1 => W ws dn k y bytes ret (pc + 3) ls (v.toList ++ rest) H1 Q) := by
  refine propext ⟨fun ⟨n, v, H1, h1, h2⟩ => ?_, fun ⟨n, v, H1, h1, n', v', H', h2, h3⟩ => ⟨max n n' + 1, v', H', ?_, h3⟩⟩
  · cases n with
    | zero => cases h1
    | succ n =>
      rw [run, h] at h1
      dsimp only at h1
      split at h1
      · rename_i v' H' g; exact ⟨n, v', H', g, n, v, H1, h1, h2⟩
      · cases h1
  · rw [run, h]
    dsimp only
    rw [run_mono (Nat.le_max_left _ _) h1]
    exact run_mono (Nat.le_max_right _ _) h2
theorem W.mono {Q' : Option Value → AHeap → Prop} (h : W ws dn k y bytes ret pc ls st H Q) (hq : ∀ v H', Q v H' → Q' v H') : W ws dn k y bytes ret pc ls st H Q' := by
  obtain ⟨n, v, H', h1, h2⟩ := h; exact ⟨n, v, H', h1, hq _ _ h2⟩
theorem act_x {ins : Instr} {len pc' : Nat} {ls' : List Slot} {st' : List Value} (hd : decode bytes pc = .ok (ins, len)) (hx : xstep ins len pc ls st = some (pc', ls', st')) : act ws dn k y bytes ret pc ls st H = some (.inr (.inl (pc', ls', st', H))) := by
  unfold act; rw [hd]; dsimp only; rw [hx]
theorem act_h {ins : Instr} {len pc' : Nat} {st' : List Value} {H' : AHeap} (hd : decode bytes pc = .ok (ins, len)) (hx : xstep ins len pc ls st = none) (hh : hstep ws k y ins len pc st H = some (pc', st', H')) : act ws dn k y bytes ret pc ls st H = some (.inr (.inl (pc', ls, st', H'))) := by
  unfold act; rw [hd]; dsimp only; rw [hx]; dsimp only; rw [hh]
theorem act_c {ins : Instr} {len : Nat} (hd : decode bytes pc = .ok (ins, len)) (hx : xstep ins len pc ls st = none) (hh : hstep ws k y ins len pc st H = none) : act ws dn k y bytes ret pc ls st H = cstep ws dn y ret ins len pc ls st H := by
  unfold act; rw [hd]; dsimp only; rw [hx]; dsimp only; rw [hh]
/-- a plain step -/
theorem w_x {ins : Instr} {len pc' : Nat} {ls' : List Slot} {st' : List Value} (hd : decode bytes pc = .ok (ins, len)) (hx : xstep ins len pc ls st = some (pc', ls', st')) : W ws dn k y bytes ret pc ls st H Q = W ws dn k y bytes ret pc' ls' st' H Q := W_step (act_x hd hx)
/-- a conditional branch -/
theorem w_if {cd : ClassFile.Cond} {o : Int} {x : Int32} {t : Nat} {P : Prop} [Decidable P] (hd : decode bytes pc = .ok (.ifCond cd o, 3)) (hp : ifCond.holds cd x = decide P) (hj : jmp pc o = some t) :
    W ws dn k y bytes ret pc ls (.int x :: st) H Q = if P then W ws dn k y bytes ret t ls st H Q else W ws dn k y bytes ret (pc + 3) ls st H Q := by
  split
  · exact w_x hd (by simp only [xstep, chk, br, hp, hj, if_true]; simp [*])
  · exact w_x hd (by simp only [xstep, chk, br, hp, hj, if_true]; simp [*])
theorem w_icmp {cd : ClassFile.Cond} {o : Int} {x1 x2 : Int32} {t : Nat} {P : Prop} [Decidable P] (hd : decode bytes pc = .ok (.if_icmp cd o, 3)) (hp : if_icmp.holds cd x1 x2 = decide P) (hj : jmp pc o = some t) :
    W ws dn k y bytes ret pc ls (.int x2 :: .int x1 :: st) H Q = if P then W ws dn k y bytes ret t ls st H Q else W ws dn k y bytes ret (pc + 3) ls st H Q := by
  split
  · exact w_x hd (by simp only [xstep, chk, br, hp, hj, if_true]; simp [*])
  · exact w_x hd (by simp only [xstep, chk, br, hp, hj, if_true]; simp [*])
theorem w_get {i j : Nat} {a : Nat} {C : String} {vs : List Value} {v : Value} (hd : decode bytes pc = .ok (.getfield i, 3)) (hr : gfR ws y.cls i = some (C, j)) (ho : H[a]? = some (.object C, vs)) (hv : vs[j]? = some v) :
    W ws dn k y bytes ret pc ls (.ref a :: st) H Q = W ws dn k y bytes ret (pc + 3) ls (v :: st) H Q :=
  W_step (act_h hd rfl (by simp only [hstep, chk, hGet, hr, ho, hv, if_true, Option.map_some]))
theorem w_put {i j : Nat} {a : Nat} {C : String} {ty : FieldType} {vs : List Value} {v v' : Value} {H' : AHeap} (hd : decode bytes pc = .ok (.putfield i, 3)) (hr : pfR ws y.cls y.name i = some (C, j, ty)) (ho : H[a]? = some (.object C, vs)) (hk : k ≤ a) (hj : j < vs.length) (hv : putv ty v = some v') (hH : H.set a (.object C, vs.set j v') = H') :
    W ws dn k y bytes ret pc ls (v :: .ref a :: st) H Q = W ws dn k y bytes ret (pc + 3) ls st H' Q :=
  W_step (act_h hd rfl (by simp only [hstep, chk, hPut, hr, ho, hv, if_true, true_and, hk, hj, Option.map_some, hH, and_self]))
theorem w_new {i : Nat} {C : String} (hd : decode bytes pc = .ok (.new i, 3)) (hr : hNew ws y.cls i pc H st = some (pc + 3, .ref H.length :: st, H ++ [(.object C, (olay ws C).map dflt)])) :
    W ws dn k y bytes ret pc ls st H Q = W ws dn k y bytes ret (pc + 3) ls (.ref H.length :: st) (H ++ [(.object C, (olay ws C).map dflt)]) Q :=
  W_step (act_h hd rfl (by simp only [hstep, chk, if_true]; exact hr))
theorem w_newA {aty : ArrayType} {n : Int32} {ty : FieldType} (hd : decode bytes pc = .ok (.newarray aty, 2)) (ht : newarray.typeOf aty = ty) (hr : hasArr ws ty = true) (hn : ¬ n < 0) (hb : n.toNatClampNeg * 8 ≤ 536870912) :
    W ws dn k y bytes ret pc ls (.int n :: st) H Q = W ws dn k y bytes ret (pc + 2) ls (.ref H.length :: st) (H ++ [(.array ty, List.replicate n.toNatClampNeg (defaultValue ty))]) Q := by
  subst ht
  exact W_step (act_h hd rfl (by simp only [hstep, chk, hNewA, hr, hn, hb, if_true, not_false_eq_true, and_self]))
/-- may the instruction read an array of that kind? -/
def ldOk : Instr → FieldType → Bool
  | .iaload, .int | .caload, .char | .laload, .long | .baload, .byte | .baload, .boolean => true
  | _, _ => false
def stOk : Instr → FieldType → Bool
  | .iastore, .int | .castore, .char | .lastore, .long | .bastore, .byte | .bastore, .boolean => true
  | _, _ => false
theorem w_ald {ins : Instr} {a : Nat} {j : Int32} {ty : FieldType} {vs : List Value} {v : Value} (hd : decode bytes pc = .ok (ins, 1)) (hi : ldOk ins ty = true) (ho : H[a]? = some (.array ty, vs)) (hj : ¬ j < 0) (hv : vs[j.toNatClampNeg]? = some v) :
    W ws dn k y bytes ret pc ls (.int j :: .ref a :: st) H Q = W ws dn k y bytes ret (pc + 1) ls (v :: st) H Q := by
  unfold ldOk at hi
  split at hi
  all_goals first
    | exact W_step (act_h hd rfl (by simp only [hstep, chk, hLd, okT, okB, ho, hv, hj, if_true, Option.map_some, decide_true, not_false_eq_true, and_self, Bool.or_true, Bool.true_or]))
    | cases hi
theorem w_ast {ins : Instr} {a : Nat} {j : Int32} {ty : FieldType} {vs : List Value} {v v' : Value} {H' : AHeap} (hd : decode bytes pc = .ok (ins, 1)) (hi : stOk ins ty = true) (ho : H[a]? = some (.array ty, vs)) (hk : k ≤ a) (hj : ¬ j < 0) (hl : j.toNatClampNeg < vs.length) (hv : putv ty v = some v') (hH : H.set a (.array ty, vs.set j.toNatClampNeg v') = H') :
    W ws dn k y bytes ret pc ls (v :: .int j :: .ref a :: st) H Q = W ws dn k y bytes ret (pc + 1) ls st H' Q := by
  unfold stOk at hi
  split at hi
  all_goals first
    | exact W_step (act_h hd rfl (by simp only [hstep, chk, hSt, okT, okB, ho, hv, hj, hk, hl, hH, if_true, Option.map_some, decide_true, not_false_eq_true, and_self, Bool.or_true, Bool.true_or]))
    | cases hi
theorem w_len {a : Nat} {ty : FieldType} {vs : List Value} (hd : decode bytes pc = .ok (.arraylength, 1)) (ho : H[a]? = some (.array ty, vs)) :
    W ws dn k y bytes ret pc ls (.ref a :: st) H Q = W ws dn k y bytes ret (pc + 1) ls (.int vs.length.toInt32 :: st) H Q :=
  W_step (act_h hd rfl (by simp only [hstep, chk, hLen, ho, if_true]))
theorem w_ldc {i : Nat} {v : Int32} (hd : decode bytes pc = .ok (.ldc i, 2)) (hr : rCon ws y.cls i = some v) : W ws dn k y bytes ret pc ls st H Q = W ws dn k y bytes ret (pc + 2) ls (.int v :: st) H Q :=
  W_step (act_h hd rfl (by simp only [hstep, chk, hr, if_true, Option.map_some]))
theorem w_ldcw {i : Nat} {v : Int32} (hd : decode bytes pc = .ok (.ldc_w i, 3)) (hr : rCon ws y.cls i = some v) : W ws dn k y bytes ret pc ls st H Q = W ws dn k y bytes ret (pc + 3) ls (.int v :: st) H Q :=
  W_step (act_h hd rfl (by simp only [hstep, chk, hr, if_true, Option.map_some]))
theorem w_ldc2 {i : Nat} {v : Int64} (hd : decode bytes pc = .ok (.ldc2_w i, 3)) (hr : rConL ws y.cls i = some v) : W ws dn k y bytes ret pc ls st H Q = W ws dn k y bytes ret (pc + 3) ls (.long v :: st) H Q :=
  W_step (act_h hd rfl (by simp only [hstep, chk, hr, if_true, Option.map_some]))
theorem w_iret {z : Int32} (hd : decode bytes pc = .ok (.ireturn, 1)) (hr : ret = some .int) : W ws dn k y bytes ret pc ls (.int z :: st) H Q = Q (some (.int z)) H := by
  subst hr; exact W_ret (by rw [act_c hd rfl rfl]; rfl)
theorem w_iretN {z : Int32} {t : FieldType} (hd : decode bytes pc = .ok (.ireturn, 1)) (hr : ret = some t) (ht : t = .int ∨ t = .boolean ∨ t = .byte ∨ t = .char ∨ t = .short) : W ws dn k y bytes ret pc ls (.int z :: st) H Q = Q (some (.int (nar t z))) H := by
  subst hr; exact W_ret (by rw [act_c hd rfl rfl]; simp only [cstep, chk, if_true, ht])
theorem w_lret {z : Int64} (hd : decode bytes pc = .ok (.lreturn, 1)) (hr : ret = some .long) : W ws dn k y bytes ret pc ls [.long z] H Q = Q (some (.long z)) H := by
  subst hr; exact W_ret (by rw [act_c hd rfl rfl]; rfl)
theorem w_vret (hd : decode bytes pc = .ok (.return_, 1)) (hr : ret = none) : W ws dn k y bytes ret pc ls [] H Q = Q none H := by
  subst hr; exact W_ret (by rw [act_c hd rfl rfl]; rfl)
theorem w_obj {i sl : Nat} {a : Nat} (hd : decode bytes pc = .ok (.invokespecial i, 3)) (hr : oR ws dn y i = some sl) (hw : wsum st ≤ sl) : W ws dn k y bytes ret pc ls (.ref a :: st) H Q = W ws dn k y bytes ret (pc + 3) ls st H Q :=
  W_step (by rw [act_c hd rfl rfl]; simp only [cstep, chk, if_true, hr, hw])
theorem w_stat {i mx na sl : Nat} {y' : MethodName} {b : ByteArray} {r : Option FieldType} {as rest : List Value} {en : List Slot} (hd : decode bytes pc = .ok (.invokestatic i, 3)) (hr : sR ws dn y i = some (y', b, mx, r, na, sl)) (hn : as.length = na) (hw : wsum rest ≤ sl) (he : (ent as.reverse).length ≤ mx) (hen : entry as.reverse mx = en) :
    W ws dn k y bytes ret pc ls (as ++ rest) H Q = W ws dn k y' b r 0 en [] H (fun v H1 => W ws dn k y bytes ret (pc + 3) ls (v.toList ++ rest) H1 Q) := by
  subst hn hen
  have e1 : (as ++ rest).take as.length = as := by simp
  have e2 : (as ++ rest).drop as.length = rest := by simp
  exact W_call (by rw [act_c hd rfl rfl]; simp only [cstep, chk, if_true, hr, e1, e2, hw, he, List.length_append, Nat.le_add_right, and_self])
theorem w_spec {i mx na sl a : Nat} {y' : MethodName} {b : ByteArray} {r : Option FieldType} {as rest : List Value} {en : List Slot} (hd : decode bytes pc = .ok (.invokespecial i, 3)) (h0 : oR ws dn y i = none) (hr : nR ws dn y i = some (y', b, mx, r, na, sl)) (hn : as.length = na) (hw : wsum rest ≤ sl) (he : (ent (.ref a :: as.reverse)).length ≤ mx) (hen : entry (.ref a :: as.reverse) mx = en) :
    W ws dn k y bytes ret pc ls (as ++ .ref a :: rest) H Q = W ws dn k y' b r 0 en [] H (fun v H1 => W ws dn k y bytes ret (pc + 3) ls (v.toList ++ rest) H1 Q) := by
  subst hn hen
  have e1 : (as ++ .ref a :: rest).take as.length = as := by simp
  have e2 : (as ++ .ref a :: rest).drop as.length = .ref a :: rest := by simp
  exact W_call (by rw [act_c hd rfl rfl]; simp only [cstep, chk, if_true, h0, hr, e1, e2, hw, he, List.length_append, Nat.le_add_right, and_self])
theorem w_virt {i mx na sl a : Nat} {pv : Bool} {y' : MethodName} {b : ByteArray} {r : Option FieldType} {as rest : List Value} {en : List Slot} {C : String} {vs : List Value} (hd : decode bytes pc = .ok (.invokevirtual i, 3)) (hr : vR ws dn y i = some (pv, y', b, mx, r, na, sl)) (ho : H[a]? = some (.object C, vs)) (hC : C = y'.cls) (hn : as.length = na) (hw : wsum rest ≤ sl) (he : (ent (.ref a :: as.reverse)).length ≤ mx) (hen : entry (.ref a :: as.reverse) mx = en) :
    W ws dn k y bytes ret pc ls (as ++ .ref a :: rest) H Q = W ws dn k y' b r 0 en [] H (fun v H1 => W ws dn k y bytes ret (pc + 3) ls (v.toList ++ rest) H1 Q) := by
  subst hn hen hC
  have e1 : (as ++ .ref a :: rest).take as.length = as := by simp
  have e2 : (as ++ .ref a :: rest).drop as.length = .ref a :: rest := by simp
  exact W_call (by rw [act_c hd rfl rfl]; simp only [cstep, chk, if_true, hr, e1, e2, ho, hw, he, List.length_append, Nat.le_add_right, and_self, or_true])
end
theorem law_of {Z : State} {a0 : Array Value} {ws : Ws} {dn : Dn} {k sa n0 : Nat} (hw : ∀ d ∈ ws, d.before a0 Z = true) (l : Launch) {y : MethodName} {b : ByteArray} {mx f lc rc rs : Nat} {r : Option FieldType} (wsx : List Jvm.Cond) (hp : Jvm.plainName y.cls = true) {as : List Value} (he : (ent as).length ≤ mx) {H : AHeap}
    (hW : W ws dn k y b r 0 (entry as mx) [] H (fun v H1 => v = some (.int 1) ∧ H1.length - H.length ≤ rc ∧ tot ws H1 - tot ws H ≤ rs)) (hdn : ∀ f' l', dnOf dn y = some (f', l') → f' ≤ f ∧ l' ≤ lc) {h : Heap} (S : Sim Z ws k sa n0 H h) :
    MetFree l y (head1 (Jvm.Cond.code y b mx r :: wsx) ({ frames := f, cells := rc, slots := rs, locals := lc } : Room)) (fun a U => a = (as.map (ren (adr k sa n0))).toArray ∧ Z.Warmed39 U.vm ∧ U.heap = h) (fun _ _ _ _ _ => True)
      (fun _ U o U' => ∃ w L, o = .returned w ∧ (w = some (.int 1) ∧ Fr n0 L) ∧ FrameEnd U o U' L rc rs) := by
  obtain ⟨n, v, H1, h1, rfl, h3, h4⟩ := hW
  have M := met_of (snd hw n) l wsx hp he h1 hdn S h3 h4
  intro p e ha hc hk s m args below hf happ hP hK
  obtain ⟨n', o, g1, g2, g3, w, L, rfl, ⟨rfl, -, N⟩, F⟩ := M p e ha hc hk s m args below hf happ hP hK
  exact ⟨n', _, g1, g2, g3, _, L, rfl, ⟨rfl, N⟩, F.1, F.2.1, F.2.2.mono h3 h4⟩
/-- the start of a law whose arguments hold no reference -/
theorem Sim.empty (Z : State) (ws : Ws) (h : Heap) : Sim Z ws 0 0 h.size [] h :=
  ⟨by simp, Nat.le_refl _, Nat.zero_le _, (fun q => absurd q (by decide)), (fun i o q => by simp at q)⟩
/-- the start of a law over one array of ints -/
theorem Sim.script {Z : State} (ws : Ws) {h : Heap} {a : Addr} {c : Cell} {vs : List Int32} (A : Arr Z h a c .int) (e : c.slots = (vs.map Value.int).toArray) : Sim Z ws 1 a h.size [(.array .int, vs.map Value.int)] h := by
  refine ⟨by simp, Nat.le_refl _, Nat.le_refl _, fun _ => A.lt, fun i o q => ?_⟩
  cases i with
  | zero =>
    cases q
    refine ⟨c, A, e.trans ?_⟩
    rw [List.map_map]; rfl
  | succ i => cases q
end Jvm.Own
namespace Jvm.Own
open Sem ClassFile Op Lib Jvm.Stand Jvm.Free Jvm.LawKit Jvm.RoadKit
/-! OWN 7: states of an object as plain functions -/
def ou {α : Type} (s : Nat → α) (i : Nat) (v : α) : Nat → α := fun j => if j = i then v else s j
theorem ou_a {α : Type} (s : Nat → α) (i : Nat) (v : α) (j : Nat) : ou s i v j = if j = i then v else s j := rfl
def pad (b : Nat) (pre : AHeap) : AHeap := (pre ++ List.replicate b (FieldType.int, [])).take b
theorem pad_len (b : Nat) (pre : AHeap) : (pad b pre).length = b := by simp [pad]
theorem pad_eq {b : Nat} {pre : AHeap} (h : pre.length = b) : pad b pre = pre := by subst h; simp [pad]
theorem pad_0 (pre : AHeap) : pad 0 pre = [] := by simp [pad]
theorem tot_cons (ws : Ws) (o : FieldType × List Value) (r : AHeap) : tot ws (o :: r) = cost ws o + tot ws r := by simp [tot]
theorem tot_append (ws : Ws) (a r : AHeap) : tot ws (a ++ r) = tot ws a + tot ws r := by simp [tot]
theorem tot_nil (ws : Ws) : tot ws [] = 0 := rfl
theorem pad_get (b : Nat) (pre r : AHeap) (i : Nat) : (pad b pre ++ r)[b + i]? = r[i]? := by
  rw [List.getElem?_append_right (by rw [pad_len]; omega), pad_len]; congr 1; omega
theorem pad_get0 (b : Nat) (pre r : AHeap) : (pad b pre ++ r)[b]? = r[0]? := pad_get b pre r 0
theorem pad_set (b : Nat) (pre r : AHeap) (i : Nat) (o : FieldType × List Value) : (pad b pre ++ r).set (b + i) o = pad b pre ++ r.set i o := by
  rw [List.set_append_right _ _ (by rw [pad_len]; omega), pad_len]; congr 2; omega
theorem pad_set0 (b : Nat) (pre r : AHeap) (o : FieldType × List Value) : (pad b pre ++ r).set b o = pad b pre ++ r.set 0 o := pad_set b pre r 0 o
theorem rCode_of {ws : Ws} {y : MethodName} {b : ByteArray} {m i : Nat} {r : Option FieldType} (h : ws[i]? = some (.code y b m r)) (h2 : (ws.take i).all (fun d => match d with | .code z _ _ _ => !decide (z = y) | _ => true) = true) : rCode ws y = some (b, m, r) := by
  have e : ws = ws.take i ++ (.code y b m r :: ws.drop (i + 1)) := by
    obtain ⟨hi, hg⟩ := List.getElem?_eq_some_iff.mp h
    rw [← hg, ← List.drop_eq_getElem_cons hi, List.take_append_drop]
  unfold rCode
  rw [e, List.findSome?_append]
  have e1 : (ws.take i).findSome? (fun d => match d with | .code z b m r => if z = y then some (b, m, r) else none | _ => none) = none := by
    rw [List.findSome?_eq_none_iff]
    intro d hd
    have q := List.all_eq_true.mp h2 d hd
    split
    · rename_i z b' m' r'
      simp at q
      simp [q]
    · rfl
  rw [e1]
  simp
theorem cR_of {ws : Ws} {dn : Dn} {y y' : MethodName} {b : ByteArray} {mx i f' l' f l na sl : Nat} {r : Option FieldType} {sig : MethodDescriptor} (h1 : rMth ws y.cls i = some y') (h2 : rCode ws y' = some (b, mx, r)) (h3 : dnOf dn y' = some (f', l')) (h4 : dnOf dn y = some (f, l)) (h5 : parseMethodDescriptor y'.desc = some sig)
    (h6 : decide (hasInit ws y'.cls = true ∧ Jvm.plainName y'.cls = true ∧ y'.cls ≠ "java/lang/invoke/MethodHandle" ∧ y'.cls ≠ "java/lang/invoke/VarHandle" ∧ f' + 1 ≤ f ∧ mx + 11 + l' ≤ l) = true) (h7 : sig.parameters.length = na) (h8 : l - (mx + 11 + l') = sl) : cR ws dn y i = some (y', b, mx, r, na, sl) := by
  subst h7 h8
  unfold cR
  rw [h1]; dsimp only
  rw [h2, h3, h4, h5]; dsimp only
  rw [if_pos (of_decide_eq_true h6)]
theorem sR_of {ws : Ws} {dn : Dn} {y : MethodName} {i : Nat} {q : MethodName × ByteArray × Nat × Option FieldType × Nat × Nat} (h : cR ws dn y i = some q) (hs : hasStat ws q.1 = true) : sR ws dn y i = some q := by
  unfold sR; rw [h]; dsimp only; rw [if_pos hs]
theorem nR_of {ws : Ws} {dn : Dn} {y : MethodName} {i : Nat} {q : MethodName × ByteArray × Nat × Option FieldType × Nat × Nat} (h : cR ws dn y i = some q) (h1 : q.1.name = "<init>") (h2 : hasIM ws q.1 = true) (h3 : q.2.2.2.1 = none) : nR ws dn y i = some q := by
  unfold nR; rw [h]; dsimp only; rw [if_pos ⟨h1, h2, h3⟩]
theorem vR_of {ws : Ws} {dn : Dn} {y : MethodName} {i : Nat} {q : MethodName × ByteArray × Nat × Option FieldType × Nat × Nat} (h : cR ws dn y i = some q) (h1 : hasIM ws q.1 = true) (h2 : decide (hasPriv ws q.1 = true ∧ (rInst ws q.1.cls).isSome = true) = false) (h3 : decide (hasDecl ws q.1 = true ∧ hasSel ws q.1 = true) = true) : vR ws dn y i = some (false, q) := by
  unfold vR; rw [h]; dsimp only; rw [if_pos h1, if_neg (of_decide_eq_false h2), if_pos (of_decide_eq_true h3)]
theorem pR_of {ws : Ws} {dn : Dn} {y : MethodName} {i : Nat} {q : MethodName × ByteArray × Nat × Option FieldType × Nat × Nat} (h : cR ws dn y i = some q) (h1 : hasIM ws q.1 = true) (h2 : decide (hasPriv ws q.1 = true ∧ (rInst ws q.1.cls).isSome = true) = true) : vR ws dn y i = some (true, q) := by
  unfold vR; rw [h]; dsimp only; rw [if_pos h1, if_pos (of_decide_eq_true h2)]
def inB {α : Type} (j : Int32) (l : List α) : Prop := ¬ j < 0 ∧ j.toNatClampNeg < l.length
def getA (l : List Int32) (j : Int32) : Int32 := l.getD j.toNatClampNeg 0
def getL (l : List Int64) (j : Int32) : Int64 := l.getD j.toNatClampNeg 0
def setA {α : Type} (l : List α) (j : Int32) (v : α) : List α := l.set j.toNatClampNeg v
def c1 : Slot → Bool
  | .unset => true
  | .second => false
  | .val v => v.category == 1
theorem c1_u : c1 .unset = true := rfl
theorem c1_i (x : Int32) : c1 (.val (.int x)) = true := rfl
theorem c1_r (a : Nat) : c1 (.val (.ref a)) = true := rfl
theorem c1_n : c1 (.val .null) = true := rfl
theorem i_eq (x y : Int32) : if_icmp.holds .eq x y = decide (x = y) := by simp only [if_icmp.holds]; by_cases h : x = y <;> simp [h]
theorem i_ne (x y : Int32) : if_icmp.holds .ne x y = !decide (x = y) := by simp only [if_icmp.holds]; by_cases h : x = y <;> simp [h]
theorem i_lt (x y : Int32) : if_icmp.holds .lt x y = decide (x < y) := rfl
theorem i_gt (x y : Int32) : if_icmp.holds .gt x y = decide (y < x) := rfl
theorem i_ge (x y : Int32) : if_icmp.holds .ge x y = !decide (x < y) := by
  show decide (y ≤ x) = _
  have e1 : (y ≤ x) ↔ ¬ (x < y) := by rw [Int32.le_iff_toInt_le, Int32.lt_iff_toInt_lt]; omega
  by_cases h : x < y
  · have : ¬ y ≤ x := fun g => e1.mp g h
    simp [h, this]
  · have := e1.mpr h
    simp [h, this]
theorem i_le (x y : Int32) : if_icmp.holds .le x y = !decide (y < x) := i_ge y x
theorem z_eq (x : Int32) : ifCond.holds .eq x = decide (x = 0) := i_eq x 0
theorem z_ne (x : Int32) : ifCond.holds .ne x = !decide (x = 0) := i_ne x 0
theorem z_lt (x : Int32) : ifCond.holds .lt x = decide (x < 0) := rfl
theorem z_gt (x : Int32) : ifCond.holds .gt x = decide (0 < x) := rfl
theorem z_ge (x : Int32) : ifCond.holds .ge x = !decide (x < 0) := i_ge x 0
theorem z_le (x : Int32) : ifCond.holds .le x = !decide (0 < x) := i_le x 0
theorem nb0 : nar .boolean 0 = 0 := by decide
theorem nb1 : nar .boolean 1 = 1 := by decide
section
variable {ws : Ws} {dn : Dn} {k : Nat} {y : MethodName} {bytes : ByteArray} {ret : Option FieldType} {pc : Nat} {ls : List Slot} {st : List Value} {H : AHeap} {Q : Option Value → AHeap → Prop}
theorem W_stuck (h : act ws dn k y bytes ret pc ls st H = none) : W ws dn k y bytes ret pc ls st H Q = False := by
  refine propext ⟨fun ⟨n, v, H1, h1, h2⟩ => ?_, False.elim⟩
  cases n with
  | zero => cases h1
  | succ n => rw [run, h] at h1; cases h1
theorem stl_c1 {i : Nat} {o : Slot} {v : Value} (ho : ls[i]? = some o) (hc : c1 o = true) (hv : v.category = 1) : stl ls i v = some (ls.set i (.val v)) := by
  have h := XS.store1 (l := ls.toArray) (i := i) (v := v) (o := o) (by simpa using ho) (by
    cases o with
    | unset => exact Or.inl rfl
    | second => cases hc
    | val w => exact Or.inr ⟨w, rfl, by simpa [c1] using hc⟩) hv
  unfold stl
  rw [h]; simp
/-- a store of one word -/
theorem w_st {ins : Instr} {len i : Nat} {o : Slot} {v : Value} {p : Value → Bool} {nx : Nat} {ls' : List Slot} (hd : decode bytes pc = .ok (ins, len)) (hx : xstep ins len pc ls (v :: st) = stV p nx i ls (v :: st)) (hp : p v = true) (hv : v.category = 1) (ho : ls[i]? = some o) (hs : ls.set i (.val v) = ls') (hc : c1 o = true) :
    W ws dn k y bytes ret pc ls (v :: st) H Q = W ws dn k y bytes ret nx ls' st H Q := by
  subst hs
  exact w_x hd (by rw [hx]; simp only [stV, hp, if_true, stl_c1 ho hc hv, Option.map_some])
theorem w_iinc {i : Nat} {c : Int} {x z : Int32} {ls' : List Slot} (hd : decode bytes pc = .ok (.iinc i c, 3)) (ho : ls[i]? = some (.val (.int x))) (hz : Int32.ofInt c = z) (hs : ls.set i (.val (.int (x + z))) = ls') :
    W ws dn k y bytes ret pc ls st H Q = W ws dn k y bytes ret (pc + 3) ls' st H Q := by
  subst hs hz
  exact w_x hd (by simp only [xstep, chk, if_true, ho, stl_c1 (v := .int (x + Int32.ofInt c)) ho rfl rfl, Option.map_some])
theorem w_con {ins : Instr} {len nx : Nat} {v v' : Value} (hd : decode bytes pc = .ok (ins, len)) (hx : xstep ins len pc ls st = some (nx, ls, v :: st)) (hv : v = v') : W ws dn k y bytes ret pc ls st H Q = W ws dn k y bytes ret nx ls (v' :: st) H Q := by
  subst hv; exact w_x hd hx
theorem w_ifN {cd : ClassFile.Cond} {o : Int} {x : Int32} {t : Nat} {P : Prop} [Decidable P] (hd : decode bytes pc = .ok (.ifCond cd o, 3)) (hp : ifCond.holds cd x = !decide P) (hj : jmp pc o = some t) :
    W ws dn k y bytes ret pc ls (.int x :: st) H Q = if P then W ws dn k y bytes ret (pc + 3) ls st H Q else W ws dn k y bytes ret t ls st H Q := by
  split
  · exact w_x hd (by simp only [xstep, chk, br, hp, hj, if_true]; simp [*])
  · exact w_x hd (by simp only [xstep, chk, br, hp, hj, if_true]; simp [*])
theorem w_icmpN {cd : ClassFile.Cond} {o : Int} {x1 x2 : Int32} {t : Nat} {P : Prop} [Decidable P] (hd : decode bytes pc = .ok (.if_icmp cd o, 3)) (hp : if_icmp.holds cd x1 x2 = !decide P) (hj : jmp pc o = some t) :
    W ws dn k y bytes ret pc ls (.int x2 :: .int x1 :: st) H Q = if P then W ws dn k y bytes ret (pc + 3) ls st H Q else W ws dn k y bytes ret t ls st H Q := by
  split
  · exact w_x hd (by simp only [xstep, chk, br, hp, hj, if_true]; simp [*])
  · exact w_x hd (by simp only [xstep, chk, br, hp, hj, if_true]; simp [*])
theorem ld_stuck {ins : Instr} {a : Nat} {j : Int32} {ty : FieldType} {vs : List Value} (hd : decode bytes pc = .ok (ins, 1)) (hi : ldOk ins ty = true) (ho : H[a]? = some (.array ty, vs)) (hj : ¬ (¬ j < 0 ∧ j.toNatClampNeg < vs.length)) : act ws dn k y bytes ret pc ls (.int j :: .ref a :: st) H = none := by
  have hv : j < 0 ∨ vs[j.toNatClampNeg]? = none := by
    by_cases q : j < 0
    · exact Or.inl q
    · exact Or.inr (List.getElem?_eq_none (Nat.le_of_not_lt fun g => hj ⟨q, g⟩))
  unfold ldOk at hi
  split at hi
  all_goals first
    | (rw [act_c hd rfl (by rcases hv with q | q <;> simp [hstep, chk, hLd, okT, okB, ho, q])]; rfl)
    | cases hi
theorem st_stuck {ins : Instr} {a : Nat} {j : Int32} {ty : FieldType} {vs : List Value} {v : Value} (hd : decode bytes pc = .ok (ins, 1)) (hi : stOk ins ty = true) (ho : H[a]? = some (.array ty, vs)) (hj : ¬ (¬ j < 0 ∧ j.toNatClampNeg < vs.length)) : act ws dn k y bytes ret pc ls (v :: .int j :: .ref a :: st) H = none := by
  have hv : ¬ (¬ j < 0 ∧ j.toNatClampNeg < vs.length) := hj
  unfold stOk at hi
  split at hi
  all_goals first
    | (rw [act_c hd rfl (by simp only [hstep, chk, hSt, okT, okB, ho, if_true]; rw [if_neg (fun q => hv q.2.2)])]; rfl)
    | cases hi
theorem w_ild {ins : Instr} {a : Nat} {j : Int32} {ty : FieldType} {l : List Int32} (hd : decode bytes pc = .ok (ins, 1)) (hi : ldOk ins ty = true) (ho : H[a]? = some (.array ty, l.map Value.int)) :
    W ws dn k y bytes ret pc ls (.int j :: .ref a :: st) H Q = (inB j l ∧ W ws dn k y bytes ret (pc + 1) ls (.int (getA l j) :: st) H Q) := by
  by_cases h : inB j l
  · rw [w_ald hd hi ho h.1 (v := .int (getA l j)) (by simp [getA, h.2])]
    simp [h]
  · rw [W_stuck (ld_stuck hd hi ho (by simpa [inB] using h))]
    simp [h]
theorem w_lld {a : Nat} {j : Int32} {l : List Int64} (hd : decode bytes pc = .ok (.laload, 1)) (ho : H[a]? = some (.array .long, l.map Value.long)) :
    W ws dn k y bytes ret pc ls (.int j :: .ref a :: st) H Q = (inB j l ∧ W ws dn k y bytes ret (pc + 1) ls (.long (getL l j) :: st) H Q) := by
  by_cases h : inB j l
  · rw [w_ald hd rfl ho h.1 (v := .long (getL l j)) (by simp [getL, h.2])]
    simp [h]
  · rw [W_stuck (ld_stuck hd rfl ho (by simpa [inB] using h))]
    simp [h]
theorem w_ist {ins : Instr} {a : Nat} {j v v' : Int32} {ty : FieldType} {l : List Int32} {H' : AHeap} (hd : decode bytes pc = .ok (ins, 1)) (hi : stOk ins ty = true) (ho : H[a]? = some (.array ty, l.map Value.int)) (hk : k ≤ a) (hv : putv ty (.int v) = some (.int v')) (hH : H.set a (.array ty, (setA l j v').map Value.int) = H') :
    W ws dn k y bytes ret pc ls (.int v :: .int j :: .ref a :: st) H Q = (inB j l ∧ W ws dn k y bytes ret (pc + 1) ls st H' Q) := by
  by_cases h : inB j l
  · rw [w_ast (H' := H') hd hi ho hk h.1 (by simpa using h.2) hv (by rw [← hH, setA, List.map_set])]
    simp [h]
  · rw [W_stuck (st_stuck hd hi ho (by simpa [inB] using h))]
    simp [h]
theorem w_lst {a : Nat} {j : Int32} {v : Int64} {l : List Int64} {H' : AHeap} (hd : decode bytes pc = .ok (.lastore, 1)) (ho : H[a]? = some (.array .long, l.map Value.long)) (hk : k ≤ a) (hH : H.set a (.array .long, (setA l j v).map Value.long) = H') :
    W ws dn k y bytes ret pc ls (.long v :: .int j :: .ref a :: st) H Q = (inB j l ∧ W ws dn k y bytes ret (pc + 1) ls st H' Q) := by
  by_cases h : inB j l
  · rw [w_ast (H' := H') hd rfl ho hk h.1 (by simpa using h.2) rfl (by rw [← hH, setA, List.map_set])]
    simp [h]
  · rw [W_stuck (st_stuck hd rfl ho (by simpa [inB] using h))]
    simp [h]
theorem w_div {ins : Instr} {f : Int32 → Int32 → Int32} {x z : Int32} (hd : decode bytes pc = .ok (ins, 1)) (hx : ∀ st, xstep ins 1 pc ls st = d2 f (pc + 1) ls st) (hh : hstep ws k y ins 1 pc (.int z :: .int x :: st) H = none) (hc : cstep ws dn y ret ins 1 pc ls (.int z :: .int x :: st) H = none) :
    W ws dn k y bytes ret pc ls (.int z :: .int x :: st) H Q = (z ≠ 0 ∧ W ws dn k y bytes ret (pc + 1) ls (.int (f x z) :: st) H Q) := by
  by_cases h : z = 0
  · rw [W_stuck (by rw [act_c hd (by rw [hx]; simp [d2, h]) hh, hc])]; simp [h]
  · rw [w_x (pc' := pc + 1) (ls' := ls) (st' := .int (f x z) :: st) hd (by rw [hx]; simp only [d2, h, if_false])]; simp [h]
/-- a field's array made in a constructor -/
theorem w_iarr {i j p1 p2 p3 : Nat} {C : String} {vs : List Value} {r : AHeap} {n : Int32} {v : Value} {aty : ArrayType} {ty at' : FieldType} {l0 : Slot} {lr : List Slot} {ins : Instr} {len : Nat} {b : Nat} (hl : l0 = .val (.ref b)) (hH : H.length = b) (hk : k ≤ b)
    (d0 : decode bytes pc = .ok (.aload_n 0, 1)) (e0 : pc + 1 = p1) (dn1 : decode bytes p1 = .ok (ins, len)) (hx : ∀ st, xstep ins len p1 (l0 :: lr) st = some (p2, l0 :: lr, v :: st)) (hv : v = .int n) (d2' : decode bytes p2 = .ok (.newarray aty, 2)) (ht : newarray.typeOf aty = ty) (hr : hasArr ws ty = true) (hn : ¬ n < 0) (hb : n.toNatClampNeg * 8 ≤ 536870912) (e3 : p2 + 2 = p3)
    (d3 : decode bytes p3 = .ok (.putfield i, 3)) (hp : pfR ws y.cls y.name i = some (C, j, .array at')) (hj : j < vs.length) :
    W ws dn k y bytes ret pc (l0 :: lr) [] (H ++ (.object C, vs) :: r) Q = W ws dn k y bytes ret (p3 + 3) (l0 :: lr) [] (H ++ (.object C, vs.set j (.ref (b + (r.length + 1)))) :: (r ++ [(.array ty, List.replicate n.toNatClampNeg (defaultValue ty))])) Q := by
  subst hl e0 e3 hv hH
  rw [w_x d0 (ls' := .val (.ref H.length) :: lr) (st' := [.ref H.length]) (pc' := pc + 1) rfl, w_x dn1 (hx _), w_newA d2' ht hr hn hb]
  have e1 : (H ++ (FieldType.object C, vs) :: r).length = H.length + (r.length + 1) := by simp
  rw [e1, w_put d3 hp (vs := vs) (H' := H ++ (.object C, vs.set j (.ref (H.length + (r.length + 1)))) :: (r ++ [(.array ty, List.replicate n.toNatClampNeg (defaultValue ty))])) (by simp) hk hj rfl (by simp)]
/-- a field's plain value put at a constructor's head -/
theorem w_iint {i j p1 p2 : Nat} {C : String} {vs : List Value} {r : AHeap} {v v0 v' : Value} {ty : FieldType} {l0 : Slot} {lr : List Slot} {ins : Instr} {len : Nat} {b : Nat} (hl : l0 = .val (.ref b)) (hH : H.length = b) (hk : k ≤ b)
    (d0 : decode bytes pc = .ok (.aload_n 0, 1)) (e0 : pc + 1 = p1) (dn1 : decode bytes p1 = .ok (ins, len)) (hx : ∀ st, xstep ins len p1 (l0 :: lr) st = some (p2, l0 :: lr, v0 :: st)) (hv : v0 = v)
    (d3 : decode bytes p2 = .ok (.putfield i, 3)) (hp : pfR ws y.cls y.name i = some (C, j, ty)) (hv' : putv ty v = some v') (hj : j < vs.length) :
    W ws dn k y bytes ret pc (l0 :: lr) [] (H ++ (.object C, vs) :: r) Q = W ws dn k y bytes ret (p2 + 3) (l0 :: lr) [] (H ++ (.object C, vs.set j v') :: r) Q := by
  subst hl e0 hv hH
  rw [w_x d0 (ls' := .val (.ref H.length) :: lr) (st' := [.ref H.length]) (pc' := pc + 1) rfl, w_x dn1 (hx _)]
  rw [w_put d3 hp (vs := vs) (H' := H ++ (.object C, vs.set j v') :: r) (by simp) hk hj hv' (by simp)]
end
end Jvm.Own
namespace Jvm.Own
open Sem ClassFile Op Lib Jvm.Stand Jvm.Free Jvm.LawKit Jvm.RoadKit
theorem getA_rep (n : Nat) (j : Int32) : getA (List.replicate n 0) j = 0 := by
  simp only [getA, List.getD_eq_getElem?_getD, List.getElem?_replicate]
  split <;> rfl
/-- the array's words as plain ints -/
theorem script_of {s : State} {a : Addr} {c : Cell} (hf : Fit s) (A : Arr s s.heap a c .int) (hl : c.slots.size < 2 ^ 31) : ∃ vs : List Int32, c.slots = (vs.map Value.int).toArray := by
  have h : ∀ v ∈ c.slots.toList, ∃ x : Int32, v = .int x := fun v hv => by
    obtain ⟨i, hi, e⟩ := List.getElem_of_mem hv
    have hi' : i < c.slots.size := by simpa using hi
    have e1 : (Nat.toInt32 i).toNatClampNeg = i := by simp only [Int32.toNatClampNeg, len_toInt (Nat.lt_trans hi' hl)]; rfl
    obtain ⟨w, h1, h2⟩ := elem_fit hf A (idx_in hi' hl)
    rw [e1] at h1
    have : w = v := by rw [Array.getElem?_eq_getElem hi'] at h1; rw [← e]; simpa using (Option.some.inj h1).symm
    subst this
    exact fit_I h2 (by simp)
  have g : ∀ l : List Value, (∀ v ∈ l, ∃ x : Int32, v = .int x) → ∃ vs : List Int32, l = vs.map Value.int := fun l => by
    induction l with
    | nil => exact fun _ => ⟨[], rfl⟩
    | cons v r ih =>
      intro q
      obtain ⟨x, rfl⟩ := q _ (List.mem_cons_self ..)
      obtain ⟨vs, e⟩ := ih fun w hw => q w (List.mem_cons_of_mem _ hw)
      exact ⟨x :: vs, by rw [e]; rfl⟩
  obtain ⟨vs, e⟩ := g _ h
  exact ⟨vs, by rw [← e]⟩
end Jvm.Own
namespace Jvm.Own
open Sem ClassFile Op Lib Jvm.Stand Jvm.Free Jvm.LawKit Jvm.RoadKit
/-! OWN 8: small facts on arrays and ints -/
theorem toNat_eq (j : Int32) : j.toNatClampNeg = j.toInt.toNat := rfl
theorem lt_i {x y : Int32} : x < y ↔ x.toInt < y.toInt := Int32.lt_iff_toInt_lt
theorem inB_iff {α : Type} {j : Int32} {l : List α} : inB j l ↔ 0 ≤ j.toInt ∧ j.toInt < (l.length : Int) := by
  have e0 : (0 : Int32).toInt = 0 := rfl
  unfold inB
  rw [lt_i, toNat_eq, e0]
  omega
theorem inB_lt {α : Type} {j n : Int32} {l : List α} (hl : (l.length : Int) = n.toInt) (h0 : ¬ j < 0) (h1 : j < n) : inB j l := by
  have e0 : (0 : Int32).toInt = 0 := rfl
  rw [inB_iff]
  rw [lt_i] at h0 h1
  rw [e0] at h0
  omega
theorem setA_len {α : Type} (l : List α) (j : Int32) (v : α) : (setA l j v).length = l.length := List.length_set
theorem getA_set {l : List Int32} {i j v : Int32} (h : inB i l) : getA (setA l i v) j = if j.toNatClampNeg = i.toNatClampNeg then v else getA l j := by
  simp only [getA, setA, List.getD_eq_getElem?_getD, List.getElem?_set]
  by_cases e : j.toNatClampNeg = i.toNatClampNeg
  · rw [e]; simp [h.2]
  · simp [e, Ne.symm e]
theorem getA_set2 (l : List Int32) (i j v : Int32) : getA (setA l i v) j = if j.toNatClampNeg = i.toNatClampNeg ∧ i.toNatClampNeg < l.length then v else getA l j := by
  simp only [getA, setA, List.getD_eq_getElem?_getD, List.getElem?_set]
  by_cases e : j.toNatClampNeg = i.toNatClampNeg
  · rw [e]
    by_cases q : i.toNatClampNeg < l.length <;> simp [q]
  · simp [e, Ne.symm e]
theorem len_ou {B A : Nat → List Int32} {j : Nat} {l : List Int32} (h : ∀ i, (A i).length = (B i).length) (hl : l.length = (B j).length) : ∀ i, (ou A j l i).length = (B i).length := fun i => by
  rw [ou_a]
  split
  · rename_i e; rw [e]; exact hl
  · exact h i
end Jvm.Own
namespace Jvm.Own
open Sem ClassFile Op Lib Jvm.Stand Jvm.Free Jvm.LawKit Jvm.RoadKit
/-! OWN 9: a normal form of states; masks and ranges -/
theorem ou_same {α : Type} (s : Nat → α) (i : Nat) (v w : α) : ou (ou s i v) i w = ou s i w := by
  funext j
  simp only [ou_a]
  by_cases h : j = i <;> simp [h]
theorem ou_comm {α : Type} {s : Nat → α} {i j : Nat} {v w : α} (h : j < i) : ou (ou s i v) j w = ou (ou s j w) (i + 0) v := by
  show ou (ou s i v) j w = ou (ou s j w) i v
  funext k
  simp only [ou_a]
  by_cases h1 : k = j
  · have h2 : ¬ k = i := by omega
    simp [h1]
    intro h3; omega
  · simp [h1]
theorem setA_same {α : Type} (l : List α) (i : Int32) (v w : α) : setA (setA l i v) i w = setA l i w := by
  simp only [setA, List.set_set]
theorem clamp_ne {i j : Int32} (h0 : ¬ j < 0) (h : j < i) : j.toNatClampNeg ≠ i.toNatClampNeg := by
  have e0 : (0 : Int32).toInt = 0 := rfl
  rw [lt_i] at *
  rw [toNat_eq, toNat_eq]
  omega
theorem setA_comm {α : Type} {l : List α} {i j : Int32} {v w : α} (h0 : ¬ j < 0) (h : j < i) : setA (setA l i v) j w = setA (setA l j w) (i + 0) v := by
  rw [Int32.add_zero]
  simp only [setA]
  exact List.set_comm _ _ (Ne.symm (clamp_ne h0 h))
theorem lt_irr (x : Int32) : (x < x) = False := by
  apply propext
  rw [lt_i]
  constructor
  · intro h; omega
  · exact False.elim
theorem bit1 (x : Int32) : x &&& 1 = 0 ∨ x &&& 1 = 1 := by
  have h : (x &&& 1).toBitVec.toNat = x.toBitVec.toNat % 2 := by
    rw [Int32.toBitVec_and, BitVec.toNat_and]
    exact Nat.and_one_is_mod _
  rcases Nat.mod_two_eq_zero_or_one x.toBitVec.toNat with e | e
  · exact Or.inl (Int32.toBitVec_inj.mp (BitVec.eq_of_toNat_eq (by rw [h, e]; rfl)))
  · exact Or.inr (Int32.toBitVec_inj.mp (BitVec.eq_of_toNat_eq (by rw [h, e]; rfl)))
theorem and_bd (x m : Int32) (hm : m.toBitVec.toNat < 2147483648) : 0 ≤ (x &&& m).toInt ∧ (x &&& m).toInt ≤ (m.toBitVec.toNat : Int) := by
  have h : (x &&& m).toBitVec.toNat ≤ m.toBitVec.toNat := by
    rw [Int32.toBitVec_and, BitVec.toNat_and]
    exact Nat.and_le_right
  have e : (x &&& m).toInt = ((x &&& m).toBitVec.toNat : Int) := BitVec.toInt_eq_toNat_of_lt (by omega)
  rw [e]
  omega
theorem rng {x : Int32} {n : Nat} (h0 : 0 ≤ x.toInt) (h1 : x.toInt < n) : ∃ k, k < n ∧ x = Int32.ofNat k := by
  have e : (x.toInt.toNat : Int) = x.toInt := Int.toNat_of_nonneg h0
  refine ⟨x.toInt.toNat, by omega, ?_⟩
  have e2 : Int32.ofNat x.toInt.toNat = Int32.ofInt (x.toInt.toNat : Int) := rfl
  rw [e2, e, Int32.ofInt_toInt]
theorem getL_rep (n : Nat) (j : Int32) : getL (List.replicate n 0) j = 0 := by
  simp only [getL, List.getD_eq_getElem?_getD, List.getElem?_replicate]
  split <;> rfl
theorem getL_set2 (l : List Int64) (i j : Int32) (v : Int64) : getL (setA l i v) j = if j.toNatClampNeg = i.toNatClampNeg ∧ i.toNatClampNeg < l.length then v else getL l j := by
  simp only [getL, setA, List.getD_eq_getElem?_getD, List.getElem?_set]
  by_cases e : j.toNatClampNeg = i.toNatClampNeg
  · rw [e]
    by_cases q : i.toNatClampNeg < l.length <;> simp [q]
  · simp [e, Ne.symm e]
theorem add_i {a b : Int32} (h : -2147483648 ≤ a.toInt + b.toInt) (h' : a.toInt + b.toInt < 2147483648) : (a + b).toInt = a.toInt + b.toInt := by
  rw [Int32.toInt_add]
  have e : ((2 ^ 32 : Nat) : Int) = 4294967296 := rfl
  exact Int.bmod_eq_of_le (by rw [e]; omega) (by rw [e]; omega)
theorem sub_i {a b : Int32} (h : -2147483648 ≤ a.toInt - b.toInt) (h' : a.toInt - b.toInt < 2147483648) : (a - b).toInt = a.toInt - b.toInt := by
  rw [Int32.toInt_sub]
  have e : ((2 ^ 32 : Nat) : Int) = 4294967296 := rfl
  exact Int.bmod_eq_of_le (by rw [e]; omega) (by rw [e]; omega)
theorem mul_i {a b : Int32} (h : -2147483648 ≤ a.toInt * b.toInt) (h' : a.toInt * b.toInt < 2147483648) : (a * b).toInt = a.toInt * b.toInt := by
  rw [Int32.toInt_mul]
  have e : ((2 ^ 32 : Nat) : Int) = 4294967296 := rfl
  exact Int.bmod_eq_of_le (by rw [e]; omega) (by rw [e]; omega)
theorem i_0 : (0 : Int32).toInt = 0 := rfl
theorem i_1 : (1 : Int32).toInt = 1 := rfl
theorem add1_i {a : Int32} (h : a.toInt < 2147483647) : (a + 1).toInt = a.toInt + 1 := by
  have := Int32.le_toInt a
  exact add_i (by rw [i_1]; omega) (by rw [i_1]; omega)
theorem nn_i {a : Int32} : ¬ a < 0 ↔ 0 ≤ a.toInt := by rw [lt_i, i_0]; omega
theorem succ_nn {a : Int32} (h0 : ¬ a < 0) (h : a.toInt < 2147483647) : ¬ a + 1 < 0 := by
  rw [nn_i] at *
  rw [add1_i h]
  omega
theorem inB_set {α : Type} {l : List α} {i j : Int32} {v : α} : inB j (setA l i v) = inB j l := by
  simp only [inB, setA_len]
theorem pad_1 (c : FieldType × List Value) : pad 1 [c] = [c] := rfl
def okS (l : Slot) : Prop := l = .unset ∨ ∃ z : Int32, l = .val (.int z)
theorem okS_u : okS .unset := Or.inl rfl
theorem okS_i (z : Int32) : okS (.val (.int z)) := Or.inr ⟨z, rfl⟩
end Jvm.Own
namespace Jvm.Pilot.@@N@@
open Jvm Jvm.ClassFile Sem Op Lib Jvm.Free Jvm.Stand Jvm.LawKit Jvm.RoadKit Bundle Jvm.Own Jvm.Pilot.@@N@@.Jvm.D
/-- frames and words that each method asks -/
def dn : Dn := [(⟨"SuffixAutomat", "<init>", "(II)V"⟩, 2, 27), (⟨"SuffixAutomat", "resetAutomaton", "()V"⟩, 1, 15), (⟨"SuffixAutomat", "clearState", "(I)V"⟩, 0, 0), (⟨"SuffixAutomat", "append", "(I)Z"⟩, 3, 52), (⟨"SuffixAutomat", "extend", "(I)V"⟩, 2, 36), (⟨"SuffixAutomat", "addEdges", "(III)I"⟩, 0, 0), (⟨"SuffixAutomat", "pushPattern", "(I)Z"⟩, 0, 0), (⟨"SuffixAutomat", "length", "()I"⟩, 0, 0), (⟨"SuffixAutomat", "patternLength", "()I"⟩, 0, 0), (⟨"SuffixAutomat", "contains", "()Z"⟩, 1, 16), (⟨"SuffixAutomat", "walkPattern", "()I"⟩, 0, 0), (⟨"SuffixAutomat", "occurrences", "()I"⟩, 2, 30), (⟨"SuffixAutomat", "ensureCounts", "()V"⟩, 1, 15), (⟨"SuffixAutomat", "sortByLength", "()V"⟩, 0, 0), (⟨"SuffixAutomat", "firstOccurrence", "()I"⟩, 1, 16), (⟨"SuffixAutomat", "distinctOfLength", "(I)I"⟩, 0, 0), (⟨"SuffixAutomat", "distinctCount", "()I"⟩, 0, 0), (⟨"SuffixAutomat", "splitState", "(IIII)V"⟩, 1, 15), (⟨"SuffixAutomatL3", "law", "(IIIIII)Z"⟩, 4, 65)]
/- scalars: 0=alpha 1=cap 2=n 3=m 4=q 5=size 6=last 7=distinct 8=countsValid 9=lcsLen 10=lcsEnd; arrays: 0=text@1 1=pat@2 2=oth@3 3=next@4 4=link@5 5=len@6 6=firstEnd@7 7=cloned@8 8=cnt@9 9=order@10 10=bucket@11; longs: []; long arrays: [] -/
def objv (b : Nat) (s : Nat → Int32) : List Value := [.ref (b + 1), .ref (b + 2), .ref (b + 3), .ref (b + 4), .ref (b + 5), .ref (b + 6), .ref (b + 7), .ref (b + 8), .ref (b + 9), .ref (b + 10), .ref (b + 11), .int (s 0), .int (s 1), .int (s 2), .int (s 3), .int (s 4), .int (s 5), .int (s 6), .int (s 7), .int (s 8)]
def put (b : Nat) (pre : AHeap) (s : Nat → Int32) (A : Nat → List Int32) (post : AHeap) : AHeap := pad b pre ++ ((.object "SuffixAutomat", objv b s) :: (.array .int, (A 0).map Value.int) :: (.array .int, (A 1).map Value.int) :: (.array .int, (A 2).map Value.int) :: (.array .int, (A 3).map Value.int) :: (.array .int, (A 4).map Value.int) :: (.array .int, (A 5).map Value.int) :: (.array .int, (A 6).map Value.int) :: (.array .boolean, (A 7).map Value.int) :: (.array .int, (A 8).map Value.int) :: (.array .int, (A 9).map Value.int) :: (.array .int, (A 10).map Value.int) :: post)
theorem put_o {b : Nat} {pre : AHeap} {s : Nat → Int32} {A : Nat → List Int32} {post : AHeap} : (put b pre s A post)[b]? = some (.object "SuffixAutomat", objv b s) := pad_get0 _ _ _
theorem put_a0 {b : Nat} {pre : AHeap} {s : Nat → Int32} {A : Nat → List Int32} {post : AHeap} : (put b pre s A post)[b + 1]? = some (.array .int, (A 0).map Value.int) := pad_get _ _ _ 1
theorem put_w0 {b : Nat} {pre : AHeap} {s : Nat → Int32} {A : Nat → List Int32} {post : AHeap} {l : List Int32} : (put b pre s A post).set (b + 1) (.array .int, l.map Value.int) = put b pre s (ou A 0 l) post := pad_set _ _ _ 1 _
theorem put_a1 {b : Nat} {pre : AHeap} {s : Nat → Int32} {A : Nat → List Int32} {post : AHeap} : (put b pre s A post)[b + 2]? = some (.array .int, (A 1).map Value.int) := pad_get _ _ _ 2
theorem put_w1 {b : Nat} {pre : AHeap} {s : Nat → Int32} {A : Nat → List Int32} {post : AHeap} {l : List Int32} : (put b pre s A post).set (b + 2) (.array .int, l.map Value.int) = put b pre s (ou A 1 l) post := pad_set _ _ _ 2 _
theorem put_a2 {b : Nat} {pre : AHeap} {s : Nat → Int32} {A : Nat → List Int32} {post : AHeap} : (put b pre s A post)[b + 3]? = some (.array .int, (A 2).map Value.int) := pad_get _ _ _ 3
theorem put_w2 {b : Nat} {pre : AHeap} {s : Nat → Int32} {A : Nat → List Int32} {post : AHeap} {l : List Int32} : (put b pre s A post).set (b + 3) (.array .int, l.map Value.int) = put b pre s (ou A 2 l) post := pad_set _ _ _ 3 _
theorem put_a3 {b : Nat} {pre : AHeap} {s : Nat → Int32} {A : Nat → List Int32} {post : AHeap} : (put b pre s A post)[b + 4]? = some (.array .int, (A 3).map Value.int) := pad_get _ _ _ 4
theorem put_w3 {b : Nat} {pre : AHeap} {s : Nat → Int32} {A : Nat → List Int32} {post : AHeap} {l : List Int32} : (put b pre s A post).set (b + 4) (.array .int, l.map Value.int) = put b pre s (ou A 3 l) post := pad_set _ _ _ 4 _
theorem put_a4 {b : Nat} {pre : AHeap} {s : Nat → Int32} {A : Nat → List Int32} {post : AHeap} : (put b pre s A post)[b + 5]? = some (.array .int, (A 4).map Value.int) := pad_get _ _ _ 5
theorem put_w4 {b : Nat} {pre : AHeap} {s : Nat → Int32} {A : Nat → List Int32} {post : AHeap} {l : List Int32} : (put b pre s A post).set (b + 5) (.array .int, l.map Value.int) = put b pre s (ou A 4 l) post := pad_set _ _ _ 5 _
theorem put_a5 {b : Nat} {pre : AHeap} {s : Nat → Int32} {A : Nat → List Int32} {post : AHeap} : (put b pre s A post)[b + 6]? = some (.array .int, (A 5).map Value.int) := pad_get _ _ _ 6
theorem put_w5 {b : Nat} {pre : AHeap} {s : Nat → Int32} {A : Nat → List Int32} {post : AHeap} {l : List Int32} : (put b pre s A post).set (b + 6) (.array .int, l.map Value.int) = put b pre s (ou A 5 l) post := pad_set _ _ _ 6 _
theorem put_a6 {b : Nat} {pre : AHeap} {s : Nat → Int32} {A : Nat → List Int32} {post : AHeap} : (put b pre s A post)[b + 7]? = some (.array .int, (A 6).map Value.int) := pad_get _ _ _ 7
theorem put_w6 {b : Nat} {pre : AHeap} {s : Nat → Int32} {A : Nat → List Int32} {post : AHeap} {l : List Int32} : (put b pre s A post).set (b + 7) (.array .int, l.map Value.int) = put b pre s (ou A 6 l) post := pad_set _ _ _ 7 _
theorem put_a7 {b : Nat} {pre : AHeap} {s : Nat → Int32} {A : Nat → List Int32} {post : AHeap} : (put b pre s A post)[b + 8]? = some (.array .boolean, (A 7).map Value.int) := pad_get _ _ _ 8
theorem put_w7 {b : Nat} {pre : AHeap} {s : Nat → Int32} {A : Nat → List Int32} {post : AHeap} {l : List Int32} : (put b pre s A post).set (b + 8) (.array .boolean, l.map Value.int) = put b pre s (ou A 7 l) post := pad_set _ _ _ 8 _
theorem put_a8 {b : Nat} {pre : AHeap} {s : Nat → Int32} {A : Nat → List Int32} {post : AHeap} : (put b pre s A post)[b + 9]? = some (.array .int, (A 8).map Value.int) := pad_get _ _ _ 9
theorem put_w8 {b : Nat} {pre : AHeap} {s : Nat → Int32} {A : Nat → List Int32} {post : AHeap} {l : List Int32} : (put b pre s A post).set (b + 9) (.array .int, l.map Value.int) = put b pre s (ou A 8 l) post := pad_set _ _ _ 9 _
theorem put_a9 {b : Nat} {pre : AHeap} {s : Nat → Int32} {A : Nat → List Int32} {post : AHeap} : (put b pre s A post)[b + 10]? = some (.array .int, (A 9).map Value.int) := pad_get _ _ _ 10
theorem put_w9 {b : Nat} {pre : AHeap} {s : Nat → Int32} {A : Nat → List Int32} {post : AHeap} {l : List Int32} : (put b pre s A post).set (b + 10) (.array .int, l.map Value.int) = put b pre s (ou A 9 l) post := pad_set _ _ _ 10 _
theorem put_a10 {b : Nat} {pre : AHeap} {s : Nat → Int32} {A : Nat → List Int32} {post : AHeap} : (put b pre s A post)[b + 11]? = some (.array .int, (A 10).map Value.int) := pad_get _ _ _ 11
theorem put_w10 {b : Nat} {pre : AHeap} {s : Nat → Int32} {A : Nat → List Int32} {post : AHeap} {l : List Int32} : (put b pre s A post).set (b + 11) (.array .int, l.map Value.int) = put b pre s (ou A 10 l) post := pad_set _ _ _ 11 _
theorem put_s0 {b : Nat} {pre : AHeap} {s : Nat → Int32} {A : Nat → List Int32} {post : AHeap} {v : Int32} : (put b pre s A post).set b (.object "SuffixAutomat", (objv b s).set 11 (.int v)) = put b pre (ou s 0 v) A post := pad_set0 _ _ _ _
theorem put_s1 {b : Nat} {pre : AHeap} {s : Nat → Int32} {A : Nat → List Int32} {post : AHeap} {v : Int32} : (put b pre s A post).set b (.object "SuffixAutomat", (objv b s).set 12 (.int v)) = put b pre (ou s 1 v) A post := pad_set0 _ _ _ _
theorem put_s2 {b : Nat} {pre : AHeap} {s : Nat → Int32} {A : Nat → List Int32} {post : AHeap} {v : Int32} : (put b pre s A post).set b (.object "SuffixAutomat", (objv b s).set 13 (.int v)) = put b pre (ou s 2 v) A post := pad_set0 _ _ _ _
theorem put_s3 {b : Nat} {pre : AHeap} {s : Nat → Int32} {A : Nat → List Int32} {post : AHeap} {v : Int32} : (put b pre s A post).set b (.object "SuffixAutomat", (objv b s).set 14 (.int v)) = put b pre (ou s 3 v) A post := pad_set0 _ _ _ _
theorem put_s4 {b : Nat} {pre : AHeap} {s : Nat → Int32} {A : Nat → List Int32} {post : AHeap} {v : Int32} : (put b pre s A post).set b (.object "SuffixAutomat", (objv b s).set 15 (.int v)) = put b pre (ou s 4 v) A post := pad_set0 _ _ _ _
theorem put_s5 {b : Nat} {pre : AHeap} {s : Nat → Int32} {A : Nat → List Int32} {post : AHeap} {v : Int32} : (put b pre s A post).set b (.object "SuffixAutomat", (objv b s).set 16 (.int v)) = put b pre (ou s 5 v) A post := pad_set0 _ _ _ _
theorem put_s6 {b : Nat} {pre : AHeap} {s : Nat → Int32} {A : Nat → List Int32} {post : AHeap} {v : Int32} : (put b pre s A post).set b (.object "SuffixAutomat", (objv b s).set 17 (.int v)) = put b pre (ou s 6 v) A post := pad_set0 _ _ _ _
theorem put_s7 {b : Nat} {pre : AHeap} {s : Nat → Int32} {A : Nat → List Int32} {post : AHeap} {v : Int32} : (put b pre s A post).set b (.object "SuffixAutomat", (objv b s).set 18 (.int v)) = put b pre (ou s 7 v) A post := pad_set0 _ _ _ _
theorem put_s8 {b : Nat} {pre : AHeap} {s : Nat → Int32} {A : Nat → List Int32} {post : AHeap} {v : Int32} : (put b pre s A post).set b (.object "SuffixAutomat", (objv b s).set 19 (.int v)) = put b pre (ou s 8 v) A post := pad_set0 _ _ _ _
theorem put_len {b : Nat} {pre : AHeap} {s : Nat → Int32} {A : Nat → List Int32} {post : AHeap} : (put b pre s A post).length = b + 12 + post.length := by rw [put, List.length_append, pad_len]; simp only [List.length_cons]; omega
theorem inst0 : rInst tables_1 "SuffixAutomat" = some 22 := by decide +kernel
theorem put_tot {b : Nat} {pre : AHeap} {s : Nat → Int32} {A : Nat → List Int32} {post : AHeap} : tot tables_1 (put b pre s A post) = tot tables_1 (pad b pre) + (22 + ((A 0).length + ((A 1).length + ((A 2).length + ((A 3).length + ((A 4).length + ((A 5).length + ((A 6).length + ((A 7).length + ((A 8).length + ((A 9).length + ((A 10).length + tot tables_1 post)))))))))))) := by rw [put, tot_append]; simp only [tot_cons, cost, List.length_map, inst0, Option.getD_some]
def D0 : List Value := [.null, .null, .null, .null, .null, .null, .null, .null, .null, .null, .null, .int 0, .int 0, .int 0, .int 0, .int 0, .int 0, .int 0, .int 0, .int 0]
theorem lay0 : (olay tables_1 "SuffixAutomat").map dflt = D0 := by decide +kernel
abbrev y0 : MethodName := ⟨"SuffixAutomat", "<init>", "(II)V"⟩
abbrev kb0 : ByteArray := prog_1_method_1_code
def M0 (pc : Nat) (ls : List Slot) (st : List Value) (H : AHeap) (Q : Option Value → AHeap → Prop) : Prop := W tables_1 dn 0 y0 prog_1_method_1_code none pc ls st H Q
abbrev y1 : MethodName := ⟨"SuffixAutomat", "resetAutomaton", "()V"⟩
abbrev kb1 : ByteArray := prog_1_method_18_code
def M1 (pc : Nat) (ls : List Slot) (st : List Value) (H : AHeap) (Q : Option Value → AHeap → Prop) : Prop := W tables_1 dn 0 y1 prog_1_method_18_code none pc ls st H Q
abbrev y2 : MethodName := ⟨"SuffixAutomat", "clearState", "(I)V"⟩
abbrev kb2 : ByteArray := prog_1_method_19_code
def M2 (pc : Nat) (ls : List Slot) (st : List Value) (H : AHeap) (Q : Option Value → AHeap → Prop) : Prop := W tables_1 dn 0 y2 prog_1_method_19_code none pc ls st H Q
abbrev y3 : MethodName := ⟨"SuffixAutomat", "append", "(I)Z"⟩
abbrev kb3 : ByteArray := prog_1_method_2_code
def M3 (pc : Nat) (ls : List Slot) (st : List Value) (H : AHeap) (Q : Option Value → AHeap → Prop) : Prop := W tables_1 dn 0 y3 prog_1_method_2_code (some .boolean) pc ls st H Q
abbrev y4 : MethodName := ⟨"SuffixAutomat", "extend", "(I)V"⟩
abbrev kb4 : ByteArray := prog_1_method_20_code
def M4 (pc : Nat) (ls : List Slot) (st : List Value) (H : AHeap) (Q : Option Value → AHeap → Prop) : Prop := W tables_1 dn 0 y4 prog_1_method_20_code none pc ls st H Q
abbrev y5 : MethodName := ⟨"SuffixAutomat", "addEdges", "(III)I"⟩
abbrev kb5 : ByteArray := prog_1_method_21_code
def M5 (pc : Nat) (ls : List Slot) (st : List Value) (H : AHeap) (Q : Option Value → AHeap → Prop) : Prop := W tables_1 dn 0 y5 prog_1_method_21_code (some .int) pc ls st H Q
abbrev y6 : MethodName := ⟨"SuffixAutomat", "pushPattern", "(I)Z"⟩
abbrev kb6 : ByteArray := prog_1_method_6_code
def M6 (pc : Nat) (ls : List Slot) (st : List Value) (H : AHeap) (Q : Option Value → AHeap → Prop) : Prop := W tables_1 dn 0 y6 prog_1_method_6_code (some .boolean) pc ls st H Q
abbrev y7 : MethodName := ⟨"SuffixAutomat", "length", "()I"⟩
abbrev kb7 : ByteArray := prog_1_method_3_code
def M7 (pc : Nat) (ls : List Slot) (st : List Value) (H : AHeap) (Q : Option Value → AHeap → Prop) : Prop := W tables_1 dn 0 y7 prog_1_method_3_code (some .int) pc ls st H Q
abbrev y8 : MethodName := ⟨"SuffixAutomat", "patternLength", "()I"⟩
abbrev kb8 : ByteArray := prog_1_method_7_code
def M8 (pc : Nat) (ls : List Slot) (st : List Value) (H : AHeap) (Q : Option Value → AHeap → Prop) : Prop := W tables_1 dn 0 y8 prog_1_method_7_code (some .int) pc ls st H Q
abbrev y9 : MethodName := ⟨"SuffixAutomat", "contains", "()Z"⟩
abbrev kb9 : ByteArray := prog_1_method_8_code
def M9 (pc : Nat) (ls : List Slot) (st : List Value) (H : AHeap) (Q : Option Value → AHeap → Prop) : Prop := W tables_1 dn 0 y9 prog_1_method_8_code (some .boolean) pc ls st H Q
abbrev y10 : MethodName := ⟨"SuffixAutomat", "walkPattern", "()I"⟩
abbrev kb10 : ByteArray := prog_1_method_23_code
def M10 (pc : Nat) (ls : List Slot) (st : List Value) (H : AHeap) (Q : Option Value → AHeap → Prop) : Prop := W tables_1 dn 0 y10 prog_1_method_23_code (some .int) pc ls st H Q
abbrev y11 : MethodName := ⟨"SuffixAutomat", "occurrences", "()I"⟩
abbrev kb11 : ByteArray := prog_1_method_9_code
def M11 (pc : Nat) (ls : List Slot) (st : List Value) (H : AHeap) (Q : Option Value → AHeap → Prop) : Prop := W tables_1 dn 0 y11 prog_1_method_9_code (some .int) pc ls st H Q
abbrev y12 : MethodName := ⟨"SuffixAutomat", "ensureCounts", "()V"⟩
abbrev kb12 : ByteArray := prog_1_method_24_code
def M12 (pc : Nat) (ls : List Slot) (st : List Value) (H : AHeap) (Q : Option Value → AHeap → Prop) : Prop := W tables_1 dn 0 y12 prog_1_method_24_code none pc ls st H Q
abbrev y13 : MethodName := ⟨"SuffixAutomat", "sortByLength", "()V"⟩
abbrev kb13 : ByteArray := prog_1_method_25_code
def M13 (pc : Nat) (ls : List Slot) (st : List Value) (H : AHeap) (Q : Option Value → AHeap → Prop) : Prop := W tables_1 dn 0 y13 prog_1_method_25_code none pc ls st H Q
abbrev y14 : MethodName := ⟨"SuffixAutomat", "firstOccurrence", "()I"⟩
abbrev kb14 : ByteArray := prog_1_method_10_code
def M14 (pc : Nat) (ls : List Slot) (st : List Value) (H : AHeap) (Q : Option Value → AHeap → Prop) : Prop := W tables_1 dn 0 y14 prog_1_method_10_code (some .int) pc ls st H Q
abbrev y15 : MethodName := ⟨"SuffixAutomat", "distinctOfLength", "(I)I"⟩
abbrev kb15 : ByteArray := prog_1_method_12_code
def M15 (pc : Nat) (ls : List Slot) (st : List Value) (H : AHeap) (Q : Option Value → AHeap → Prop) : Prop := W tables_1 dn 0 y15 prog_1_method_12_code (some .int) pc ls st H Q
abbrev y16 : MethodName := ⟨"SuffixAutomat", "distinctCount", "()I"⟩
abbrev kb16 : ByteArray := prog_1_method_11_code
def M16 (pc : Nat) (ls : List Slot) (st : List Value) (H : AHeap) (Q : Option Value → AHeap → Prop) : Prop := W tables_1 dn 0 y16 prog_1_method_11_code (some .int) pc ls st H Q
abbrev y17 : MethodName := ⟨"SuffixAutomat", "splitState", "(IIII)V"⟩
abbrev kb17 : ByteArray := prog_1_method_22_code
def M17 (pc : Nat) (ls : List Slot) (st : List Value) (H : AHeap) (Q : Option Value → AHeap → Prop) : Prop := W tables_1 dn 0 y17 prog_1_method_22_code none pc ls st H Q
abbrev y18 : MethodName := ⟨"SuffixAutomatL3", "law", "(IIIIII)Z"⟩
abbrev kb18 : ByteArray := code
def M18 (pc : Nat) (ls : List Slot) (st : List Value) (H : AHeap) (Q : Option Value → AHeap → Prop) : Prop := W tables_1 dn 0 y18 code (some .boolean) pc ls st H Q
theorem dn_0 : dnOf dn y0 = some (2, 27) := by decide +kernel
theorem rc_0 : rCode tables_1 y0 = some (prog_1_method_1_code, 5, none) := rCode_of (i := 5) rfl (by decide +kernel)
theorem dn_1 : dnOf dn y1 = some (1, 15) := by decide +kernel
theorem rc_1 : rCode tables_1 y1 = some (prog_1_method_18_code, 1, none) := rCode_of (i := 46) rfl (by decide +kernel)
theorem dn_2 : dnOf dn y2 = some (0, 0) := by decide +kernel
theorem rc_2 : rCode tables_1 y2 = some (prog_1_method_19_code, 4, none) := rCode_of (i := 58) rfl (by decide +kernel)
theorem dn_3 : dnOf dn y3 = some (3, 52) := by decide +kernel
theorem rc_3 : rCode tables_1 y3 = some (prog_1_method_2_code, 2, some .boolean) := rCode_of (i := 63) rfl (by decide +kernel)
theorem dn_4 : dnOf dn y4 = some (2, 36) := by decide +kernel
theorem rc_4 : rCode tables_1 y4 = some (prog_1_method_20_code, 5, none) := rCode_of (i := 67) rfl (by decide +kernel)
theorem dn_5 : dnOf dn y5 = some (0, 0) := by decide +kernel
theorem rc_5 : rCode tables_1 y5 = some (prog_1_method_21_code, 6, some .int) := rCode_of (i := 71) rfl (by decide +kernel)
theorem dn_6 : dnOf dn y6 = some (0, 0) := by decide +kernel
theorem rc_6 : rCode tables_1 y6 = some (prog_1_method_6_code, 2, some .boolean) := rCode_of (i := 76) rfl (by decide +kernel)
theorem dn_7 : dnOf dn y7 = some (0, 0) := by decide +kernel
theorem rc_7 : rCode tables_1 y7 = some (prog_1_method_3_code, 1, some .int) := rCode_of (i := 81) rfl (by decide +kernel)
theorem dn_8 : dnOf dn y8 = some (0, 0) := by decide +kernel
theorem rc_8 : rCode tables_1 y8 = some (prog_1_method_7_code, 1, some .int) := rCode_of (i := 86) rfl (by decide +kernel)
theorem dn_9 : dnOf dn y9 = some (1, 16) := by decide +kernel
theorem rc_9 : rCode tables_1 y9 = some (prog_1_method_8_code, 1, some .boolean) := rCode_of (i := 91) rfl (by decide +kernel)
theorem dn_10 : dnOf dn y10 = some (0, 0) := by decide +kernel
theorem rc_10 : rCode tables_1 y10 = some (prog_1_method_23_code, 5, some .int) := rCode_of (i := 95) rfl (by decide +kernel)
theorem dn_11 : dnOf dn y11 = some (2, 30) := by decide +kernel
theorem rc_11 : rCode tables_1 y11 = some (prog_1_method_9_code, 2, some .int) := rCode_of (i := 100) rfl (by decide +kernel)
theorem dn_12 : dnOf dn y12 = some (1, 15) := by decide +kernel
theorem rc_12 : rCode tables_1 y12 = some (prog_1_method_24_code, 4, none) := rCode_of (i := 104) rfl (by decide +kernel)
theorem dn_13 : dnOf dn y13 = some (0, 0) := by decide +kernel
theorem rc_13 : rCode tables_1 y13 = some (prog_1_method_25_code, 4, none) := rCode_of (i := 108) rfl (by decide +kernel)
theorem dn_14 : dnOf dn y14 = some (1, 16) := by decide +kernel
theorem rc_14 : rCode tables_1 y14 = some (prog_1_method_10_code, 2, some .int) := rCode_of (i := 113) rfl (by decide +kernel)
theorem dn_15 : dnOf dn y15 = some (0, 0) := by decide +kernel
theorem rc_15 : rCode tables_1 y15 = some (prog_1_method_12_code, 5, some .int) := rCode_of (i := 118) rfl (by decide +kernel)
theorem dn_16 : dnOf dn y16 = some (0, 0) := by decide +kernel
theorem rc_16 : rCode tables_1 y16 = some (prog_1_method_11_code, 1, some .int) := rCode_of (i := 123) rfl (by decide +kernel)
theorem dn_17 : dnOf dn y17 = some (1, 15) := by decide +kernel
theorem rc_17 : rCode tables_1 y17 = some (prog_1_method_22_code, 10, none) := rCode_of (i := 127) rfl (by decide +kernel)
theorem dn_18 : dnOf dn y18 = some (4, 65) := by decide +kernel
theorem gf_7 : gfR tables_1 "SuffixAutomat" 7 = some ("SuffixAutomat", 0) := by decide +kernel
theorem gf_13 : gfR tables_1 "SuffixAutomat" 13 = some ("SuffixAutomat", 1) := by decide +kernel
theorem gf_16 : gfR tables_1 "SuffixAutomat" 16 = some ("SuffixAutomat", 2) := by decide +kernel
theorem gf_19 : gfR tables_1 "SuffixAutomat" 19 = some ("SuffixAutomat", 3) := by decide +kernel
theorem gf_22 : gfR tables_1 "SuffixAutomat" 22 = some ("SuffixAutomat", 4) := by decide +kernel
theorem gf_25 : gfR tables_1 "SuffixAutomat" 25 = some ("SuffixAutomat", 5) := by decide +kernel
theorem gf_28 : gfR tables_1 "SuffixAutomat" 28 = some ("SuffixAutomat", 6) := by decide +kernel
theorem gf_31 : gfR tables_1 "SuffixAutomat" 31 = some ("SuffixAutomat", 7) := by decide +kernel
theorem gf_35 : gfR tables_1 "SuffixAutomat" 35 = some ("SuffixAutomat", 8) := by decide +kernel
theorem gf_38 : gfR tables_1 "SuffixAutomat" 38 = some ("SuffixAutomat", 9) := by decide +kernel
theorem gf_41 : gfR tables_1 "SuffixAutomat" 41 = some ("SuffixAutomat", 10) := by decide +kernel
theorem gf_44 : gfR tables_1 "SuffixAutomat" 44 = some ("SuffixAutomat", 11) := by decide +kernel
theorem gf_48 : gfR tables_1 "SuffixAutomat" 48 = some ("SuffixAutomat", 12) := by decide +kernel
theorem gf_51 : gfR tables_1 "SuffixAutomat" 51 = some ("SuffixAutomat", 13) := by decide +kernel
theorem gf_54 : gfR tables_1 "SuffixAutomat" 54 = some ("SuffixAutomat", 14) := by decide +kernel
theorem gf_57 : gfR tables_1 "SuffixAutomat" 57 = some ("SuffixAutomat", 15) := by decide +kernel
theorem gf_74 : gfR tables_1 "SuffixAutomat" 74 = some ("SuffixAutomat", 18) := by decide +kernel
theorem gf_77 : gfR tables_1 "SuffixAutomat" 77 = some ("SuffixAutomat", 16) := by decide +kernel
theorem gf_89 : gfR tables_1 "SuffixAutomat" 89 = some ("SuffixAutomat", 17) := by decide +kernel
theorem gf_92 : gfR tables_1 "SuffixAutomat" 92 = some ("SuffixAutomat", 19) := by decide +kernel
section Rules
variable {b r q : Nat} {pre : AHeap} {s : Nat → Int32} {A : Nat → List Int32} {post : AHeap} {ls : List Slot} {st : List Value} {H R : AHeap} {Q : Option Value → AHeap → Prop} {x y v z j : Int32} {J1 J2 : Int64} {sc : List Int32} {l0 l1 l2 l3 l4 l5 l6 l7 l8 l9 l10 l11 l12 l13 l14 l15 l16 l17 l18 l19 l20 l21 l22 l23 l24 l25 : Slot}
theorem m0_0 : M0 0 [.val (.ref r), l1, l2, l3, l4] st H Q = M0 1 [.val (.ref r), l1, l2, l3, l4] (.ref r :: st) H Q := w_x (show decode kb0 0 = .ok (.aload_n 0, 1) from by decide +kernel) rfl
theorem m0_1 : M0 1 ls [.ref r] H Q = M0 4 ls [] H Q := w_obj (show decode kb0 1 = .ok (.invokespecial 1, 3) from by decide +kernel) (sl := 15) (by decide +kernel) (by decide)
theorem m0_4 : M0 4 [.val (.ref r), l1, l2, l3, l4] st H Q = M0 5 [.val (.ref r), l1, l2, l3, l4] (.ref r :: st) H Q := w_x (show decode kb0 4 = .ok (.aload_n 0, 1) from by decide +kernel) rfl
theorem m0_5 : M0 5 ls st H Q = M0 7 ls (.int 64 :: st) H Q := w_con (show decode kb0 5 = .ok (.bipush 64, 2) from by decide +kernel) rfl (by decide)
theorem m0_12 : M0 12 [.val (.ref r), l1, l2, l3, l4] st H Q = M0 13 [.val (.ref r), l1, l2, l3, l4] (.ref r :: st) H Q := w_x (show decode kb0 12 = .ok (.aload_n 0, 1) from by decide +kernel) rfl
theorem m0_13 : M0 13 ls st H Q = M0 15 ls (.int 64 :: st) H Q := w_con (show decode kb0 13 = .ok (.bipush 64, 2) from by decide +kernel) rfl (by decide)
theorem m0_20 : M0 20 [.val (.ref r), l1, l2, l3, l4] st H Q = M0 21 [.val (.ref r), l1, l2, l3, l4] (.ref r :: st) H Q := w_x (show decode kb0 20 = .ok (.aload_n 0, 1) from by decide +kernel) rfl
theorem m0_21 : M0 21 ls st H Q = M0 23 ls (.int 64 :: st) H Q := w_con (show decode kb0 21 = .ok (.bipush 64, 2) from by decide +kernel) rfl (by decide)
theorem m0_28 : M0 28 [.val (.ref r), l1, l2, l3, l4] st H Q = M0 29 [.val (.ref r), l1, l2, l3, l4] (.ref r :: st) H Q := w_x (show decode kb0 28 = .ok (.aload_n 0, 1) from by decide +kernel) rfl
theorem m0_29 : M0 29 ls st H Q = M0 32 ls (.int 1024 :: st) H Q := w_con (show decode kb0 29 = .ok (.sipush 1024, 3) from by decide +kernel) rfl (by decide)
theorem m0_37 : M0 37 [.val (.ref r), l1, l2, l3, l4] st H Q = M0 38 [.val (.ref r), l1, l2, l3, l4] (.ref r :: st) H Q := w_x (show decode kb0 37 = .ok (.aload_n 0, 1) from by decide +kernel) rfl
theorem m0_38 : M0 38 ls st H Q = M0 41 ls (.int 128 :: st) H Q := w_con (show decode kb0 38 = .ok (.sipush 128, 3) from by decide +kernel) rfl (by decide)
theorem m0_46 : M0 46 [.val (.ref r), l1, l2, l3, l4] st H Q = M0 47 [.val (.ref r), l1, l2, l3, l4] (.ref r :: st) H Q := w_x (show decode kb0 46 = .ok (.aload_n 0, 1) from by decide +kernel) rfl
theorem m0_47 : M0 47 ls st H Q = M0 50 ls (.int 128 :: st) H Q := w_con (show decode kb0 47 = .ok (.sipush 128, 3) from by decide +kernel) rfl (by decide)
theorem m0_55 : M0 55 [.val (.ref r), l1, l2, l3, l4] st H Q = M0 56 [.val (.ref r), l1, l2, l3, l4] (.ref r :: st) H Q := w_x (show decode kb0 55 = .ok (.aload_n 0, 1) from by decide +kernel) rfl
theorem m0_56 : M0 56 ls st H Q = M0 59 ls (.int 128 :: st) H Q := w_con (show decode kb0 56 = .ok (.sipush 128, 3) from by decide +kernel) rfl (by decide)
theorem m0_64 : M0 64 [.val (.ref r), l1, l2, l3, l4] st H Q = M0 65 [.val (.ref r), l1, l2, l3, l4] (.ref r :: st) H Q := w_x (show decode kb0 64 = .ok (.aload_n 0, 1) from by decide +kernel) rfl
theorem m0_65 : M0 65 ls st H Q = M0 68 ls (.int 128 :: st) H Q := w_con (show decode kb0 65 = .ok (.sipush 128, 3) from by decide +kernel) rfl (by decide)
theorem m0_73 : M0 73 [.val (.ref r), l1, l2, l3, l4] st H Q = M0 74 [.val (.ref r), l1, l2, l3, l4] (.ref r :: st) H Q := w_x (show decode kb0 73 = .ok (.aload_n 0, 1) from by decide +kernel) rfl
theorem m0_74 : M0 74 ls st H Q = M0 77 ls (.int 128 :: st) H Q := w_con (show decode kb0 74 = .ok (.sipush 128, 3) from by decide +kernel) rfl (by decide)
theorem m0_82 : M0 82 [.val (.ref r), l1, l2, l3, l4] st H Q = M0 83 [.val (.ref r), l1, l2, l3, l4] (.ref r :: st) H Q := w_x (show decode kb0 82 = .ok (.aload_n 0, 1) from by decide +kernel) rfl
theorem m0_83 : M0 83 ls st H Q = M0 86 ls (.int 128 :: st) H Q := w_con (show decode kb0 83 = .ok (.sipush 128, 3) from by decide +kernel) rfl (by decide)
theorem m0_91 : M0 91 [.val (.ref r), l1, l2, l3, l4] st H Q = M0 92 [.val (.ref r), l1, l2, l3, l4] (.ref r :: st) H Q := w_x (show decode kb0 91 = .ok (.aload_n 0, 1) from by decide +kernel) rfl
theorem m0_92 : M0 92 ls st H Q = M0 94 ls (.int 65 :: st) H Q := w_con (show decode kb0 92 = .ok (.bipush 65, 2) from by decide +kernel) rfl (by decide)
theorem m0_99 : M0 99 [l0, .val (.int v), l2, l3, l4] st H Q = M0 100 [l0, .val (.int v), l2, l3, l4] (.int v :: st) H Q := w_x (show decode kb0 99 = .ok (.iload_n 1, 1) from by decide +kernel) rfl
theorem m0_100u : M0 100 [l0, l1, l2, .unset, l4] ((.int v) :: st) H Q = M0 101 [l0, l1, l2, .val (.int v), l4] st H Q := w_st (i := 3) (p := isI) (show decode kb0 100 = .ok (.istore_n 3, 1) from by decide +kernel) rfl rfl rfl rfl rfl rfl
theorem m0_101 : M0 101 [l0, l1, l2, .val (.int v), l4] st H Q = M0 102 [l0, l1, l2, .val (.int v), l4] (.int v :: st) H Q := w_x (show decode kb0 101 = .ok (.iload_n 3, 1) from by decide +kernel) rfl
theorem m0_102 : M0 102 ls st H Q = M0 103 ls (.int 2 :: st) H Q := w_con (show decode kb0 102 = .ok (.iconst 2, 1) from by decide +kernel) rfl (by decide)
theorem m0_103 : M0 103 ls (.int y :: .int x :: st) H Q = if x < y then M0 106 ls st H Q else M0 108 ls st H Q := w_icmpN (show decode kb0 103 = .ok (.if_icmp .ge 5, 3) from by decide +kernel) (i_ge x y) rfl
theorem m0_106 : M0 106 ls st H Q = M0 107 ls (.int 2 :: st) H Q := w_con (show decode kb0 106 = .ok (.iconst 2, 1) from by decide +kernel) rfl (by decide)
theorem m0_107i : M0 107 [l0, l1, l2, .val (.int z), l4] ((.int v) :: st) H Q = M0 108 [l0, l1, l2, .val (.int v), l4] st H Q := w_st (i := 3) (p := isI) (show decode kb0 107 = .ok (.istore_n 3, 1) from by decide +kernel) rfl rfl rfl rfl rfl rfl
theorem m0_108 : M0 108 [l0, l1, l2, .val (.int v), l4] st H Q = M0 109 [l0, l1, l2, .val (.int v), l4] (.int v :: st) H Q := w_x (show decode kb0 108 = .ok (.iload_n 3, 1) from by decide +kernel) rfl
theorem m0_109 : M0 109 ls st H Q = M0 111 ls (.int 8 :: st) H Q := w_con (show decode kb0 109 = .ok (.bipush 8, 2) from by decide +kernel) rfl (by decide)
theorem m0_111 : M0 111 ls (.int y :: .int x :: st) H Q = if y < x then M0 114 ls st H Q else M0 117 ls st H Q := w_icmpN (show decode kb0 111 = .ok (.if_icmp .le 6, 3) from by decide +kernel) (i_le x y) rfl
theorem m0_114 : M0 114 ls st H Q = M0 116 ls (.int 8 :: st) H Q := w_con (show decode kb0 114 = .ok (.bipush 8, 2) from by decide +kernel) rfl (by decide)
theorem m0_116i : M0 116 [l0, l1, l2, .val (.int z), l4] ((.int v) :: st) H Q = M0 117 [l0, l1, l2, .val (.int v), l4] st H Q := w_st (i := 3) (p := isI) (show decode kb0 116 = .ok (.istore_n 3, 1) from by decide +kernel) rfl rfl rfl rfl rfl rfl
theorem m0_117 : M0 117 [l0, l1, .val (.int v), l3, l4] st H Q = M0 118 [l0, l1, .val (.int v), l3, l4] (.int v :: st) H Q := w_x (show decode kb0 117 = .ok (.iload_n 2, 1) from by decide +kernel) rfl
theorem m0_118u : M0 118 [l0, l1, l2, l3, .unset] ((.int v) :: st) H Q = M0 120 [l0, l1, l2, l3, .val (.int v)] st H Q := w_st (i := 4) (p := isI) (show decode kb0 118 = .ok (.istore 4, 2) from by decide +kernel) rfl rfl rfl rfl rfl rfl
theorem m0_120 : M0 120 [l0, l1, l2, l3, .val (.int v)] st H Q = M0 122 [l0, l1, l2, l3, .val (.int v)] (.int v :: st) H Q := w_x (show decode kb0 120 = .ok (.iload 4, 2) from by decide +kernel) rfl
theorem m0_122 : M0 122 ls st H Q = M0 124 ls (.int 8 :: st) H Q := w_con (show decode kb0 122 = .ok (.bipush 8, 2) from by decide +kernel) rfl (by decide)
theorem m0_124 : M0 124 ls (.int y :: .int x :: st) H Q = if x < y then M0 127 ls st H Q else M0 131 ls st H Q := w_icmpN (show decode kb0 124 = .ok (.if_icmp .ge 7, 3) from by decide +kernel) (i_ge x y) rfl
theorem m0_127 : M0 127 ls st H Q = M0 129 ls (.int 8 :: st) H Q := w_con (show decode kb0 127 = .ok (.bipush 8, 2) from by decide +kernel) rfl (by decide)
theorem m0_129i : M0 129 [l0, l1, l2, l3, .val (.int z)] ((.int v) :: st) H Q = M0 131 [l0, l1, l2, l3, .val (.int v)] st H Q := w_st (i := 4) (p := isI) (show decode kb0 129 = .ok (.istore 4, 2) from by decide +kernel) rfl rfl rfl rfl rfl rfl
theorem m0_131 : M0 131 [l0, l1, l2, l3, .val (.int v)] st H Q = M0 133 [l0, l1, l2, l3, .val (.int v)] (.int v :: st) H Q := w_x (show decode kb0 131 = .ok (.iload 4, 2) from by decide +kernel) rfl
theorem m0_133 : M0 133 ls st H Q = M0 135 ls (.int 64 :: st) H Q := w_con (show decode kb0 133 = .ok (.bipush 64, 2) from by decide +kernel) rfl (by decide)
theorem m0_135 : M0 135 ls (.int y :: .int x :: st) H Q = if y < x then M0 138 ls st H Q else M0 142 ls st H Q := w_icmpN (show decode kb0 135 = .ok (.if_icmp .le 7, 3) from by decide +kernel) (i_le x y) rfl
theorem m0_138 : M0 138 ls st H Q = M0 140 ls (.int 64 :: st) H Q := w_con (show decode kb0 138 = .ok (.bipush 64, 2) from by decide +kernel) rfl (by decide)
theorem m0_140i : M0 140 [l0, l1, l2, l3, .val (.int z)] ((.int v) :: st) H Q = M0 142 [l0, l1, l2, l3, .val (.int v)] st H Q := w_st (i := 4) (p := isI) (show decode kb0 140 = .ok (.istore 4, 2) from by decide +kernel) rfl rfl rfl rfl rfl rfl
theorem m0_142 : M0 142 [.val (.ref r), l1, l2, l3, l4] st H Q = M0 143 [.val (.ref r), l1, l2, l3, l4] (.ref r :: st) H Q := w_x (show decode kb0 142 = .ok (.aload_n 0, 1) from by decide +kernel) rfl
theorem m0_143 : M0 143 [l0, l1, l2, .val (.int v), l4] st H Q = M0 144 [l0, l1, l2, .val (.int v), l4] (.int v :: st) H Q := w_x (show decode kb0 143 = .ok (.iload_n 3, 1) from by decide +kernel) rfl
theorem pf0_44 : pfR tables_1 y0.cls y0.name 44 = some ("SuffixAutomat", 11, .int) := by decide +kernel
theorem m0_144 : M0 144 ls (.int v :: .ref b :: st) (put b pre s A post) Q = M0 147 ls st (put b pre (ou s 0 v) A post) Q := w_put (show decode kb0 144 = .ok (.putfield 44, 3) from by decide +kernel) pf0_44 put_o (Nat.zero_le _) (by show 11 < 20; omega) rfl put_s0
theorem m0_147 : M0 147 [.val (.ref r), l1, l2, l3, l4] st H Q = M0 148 [.val (.ref r), l1, l2, l3, l4] (.ref r :: st) H Q := w_x (show decode kb0 147 = .ok (.aload_n 0, 1) from by decide +kernel) rfl
theorem m0_148 : M0 148 [l0, l1, l2, l3, .val (.int v)] st H Q = M0 150 [l0, l1, l2, l3, .val (.int v)] (.int v :: st) H Q := w_x (show decode kb0 148 = .ok (.iload 4, 2) from by decide +kernel) rfl
theorem pf0_48 : pfR tables_1 y0.cls y0.name 48 = some ("SuffixAutomat", 12, .int) := by decide +kernel
theorem m0_150 : M0 150 ls (.int v :: .ref b :: st) (put b pre s A post) Q = M0 153 ls st (put b pre (ou s 1 v) A post) Q := w_put (show decode kb0 150 = .ok (.putfield 48, 3) from by decide +kernel) pf0_48 put_o (Nat.zero_le _) (by show 12 < 20; omega) rfl put_s1
theorem m0_153 : M0 153 [.val (.ref r), l1, l2, l3, l4] st H Q = M0 154 [.val (.ref r), l1, l2, l3, l4] (.ref r :: st) H Q := w_x (show decode kb0 153 = .ok (.aload_n 0, 1) from by decide +kernel) rfl
theorem m0_154 : M0 154 ls st H Q = M0 155 ls (.int 0 :: st) H Q := w_con (show decode kb0 154 = .ok (.iconst 0, 1) from by decide +kernel) rfl (by decide)
theorem pf0_51 : pfR tables_1 y0.cls y0.name 51 = some ("SuffixAutomat", 13, .int) := by decide +kernel
theorem m0_155 : M0 155 ls (.int v :: .ref b :: st) (put b pre s A post) Q = M0 158 ls st (put b pre (ou s 2 v) A post) Q := w_put (show decode kb0 155 = .ok (.putfield 51, 3) from by decide +kernel) pf0_51 put_o (Nat.zero_le _) (by show 13 < 20; omega) rfl put_s2
theorem m0_158 : M0 158 [.val (.ref r), l1, l2, l3, l4] st H Q = M0 159 [.val (.ref r), l1, l2, l3, l4] (.ref r :: st) H Q := w_x (show decode kb0 158 = .ok (.aload_n 0, 1) from by decide +kernel) rfl
theorem m0_159 : M0 159 ls st H Q = M0 160 ls (.int 0 :: st) H Q := w_con (show decode kb0 159 = .ok (.iconst 0, 1) from by decide +kernel) rfl (by decide)
theorem pf0_54 : pfR tables_1 y0.cls y0.name 54 = some ("SuffixAutomat", 14, .int) := by decide +kernel
theorem m0_160 : M0 160 ls (.int v :: .ref b :: st) (put b pre s A post) Q = M0 163 ls st (put b pre (ou s 3 v) A post) Q := w_put (show decode kb0 160 = .ok (.putfield 54, 3) from by decide +kernel) pf0_54 put_o (Nat.zero_le _) (by show 14 < 20; omega) rfl put_s3
theorem m0_163 : M0 163 [.val (.ref r), l1, l2, l3, l4] st H Q = M0 164 [.val (.ref r), l1, l2, l3, l4] (.ref r :: st) H Q := w_x (show decode kb0 163 = .ok (.aload_n 0, 1) from by decide +kernel) rfl
theorem m0_164 : M0 164 ls st H Q = M0 165 ls (.int 0 :: st) H Q := w_con (show decode kb0 164 = .ok (.iconst 0, 1) from by decide +kernel) rfl (by decide)
theorem pf0_57 : pfR tables_1 y0.cls y0.name 57 = some ("SuffixAutomat", 15, .int) := by decide +kernel
theorem m0_165 : M0 165 ls (.int v :: .ref b :: st) (put b pre s A post) Q = M0 168 ls st (put b pre (ou s 4 v) A post) Q := w_put (show decode kb0 165 = .ok (.putfield 57, 3) from by decide +kernel) pf0_57 put_o (Nat.zero_le _) (by show 15 < 20; omega) rfl put_s4
theorem m0_168 : M0 168 [.val (.ref r), l1, l2, l3, l4] st H Q = M0 169 [.val (.ref r), l1, l2, l3, l4] (.ref r :: st) H Q := w_x (show decode kb0 168 = .ok (.aload_n 0, 1) from by decide +kernel) rfl
theorem cr0_60 : vR tables_1 dn y0 60 = some (true, y1, prog_1_method_18_code, 1, none, 0, 0) := pR_of (cR_of (by decide +kernel) rc_1 dn_1 dn_0 (sig := ⟨[], none⟩) (by decide +kernel) (by decide +kernel) rfl rfl) (by decide +kernel) (by decide +kernel)
theorem m0_169 : M0 169 ls [.ref b] (put b pre s A post) Q = M1 0 [.val (.ref b)] [] (put b pre s A post) (fun v H1 => M0 172 ls (v.toList ++ []) H1 Q) := w_virt (as := []) (rest := []) (a := b) (show decode kb0 169 = .ok (.invokevirtual 60, 3) from by decide +kernel) cr0_60 put_o rfl rfl (Nat.le_of_ble_eq_true rfl) (by show 1 ≤ 1; omega) rfl
theorem m0_172 : M0 172 ls [] H Q = Q none H := w_vret (show decode kb0 172 = .ok (.return_, 1) from by decide +kernel) rfl
theorem m1_0 : M1 0 [.val (.ref r)] st H Q = M1 1 [.val (.ref r)] (.ref r :: st) H Q := w_x (show decode kb1 0 = .ok (.aload_n 0, 1) from by decide +kernel) rfl
theorem m1_1 : M1 1 ls st H Q = M1 2 ls (.int 1 :: st) H Q := w_con (show decode kb1 1 = .ok (.iconst 1, 1) from by decide +kernel) rfl (by decide)
theorem pf1_77 : pfR tables_1 y1.cls y1.name 77 = some ("SuffixAutomat", 16, .int) := by decide +kernel
theorem m1_2 : M1 2 ls (.int v :: .ref b :: st) (put b pre s A post) Q = M1 5 ls st (put b pre (ou s 5 v) A post) Q := w_put (show decode kb1 2 = .ok (.putfield 77, 3) from by decide +kernel) pf1_77 put_o (Nat.zero_le _) (by show 16 < 20; omega) rfl put_s5
theorem m1_5 : M1 5 [.val (.ref r)] st H Q = M1 6 [.val (.ref r)] (.ref r :: st) H Q := w_x (show decode kb1 5 = .ok (.aload_n 0, 1) from by decide +kernel) rfl
theorem m1_6 : M1 6 ls st H Q = M1 7 ls (.int 0 :: st) H Q := w_con (show decode kb1 6 = .ok (.iconst 0, 1) from by decide +kernel) rfl (by decide)
theorem pf1_89 : pfR tables_1 y1.cls y1.name 89 = some ("SuffixAutomat", 17, .int) := by decide +kernel
theorem m1_7 : M1 7 ls (.int v :: .ref b :: st) (put b pre s A post) Q = M1 10 ls st (put b pre (ou s 6 v) A post) Q := w_put (show decode kb1 7 = .ok (.putfield 89, 3) from by decide +kernel) pf1_89 put_o (Nat.zero_le _) (by show 17 < 20; omega) rfl put_s6
theorem m1_10 : M1 10 [.val (.ref r)] st H Q = M1 11 [.val (.ref r)] (.ref r :: st) H Q := w_x (show decode kb1 10 = .ok (.aload_n 0, 1) from by decide +kernel) rfl
theorem m1_11 : M1 11 ls st H Q = M1 12 ls (.int 0 :: st) H Q := w_con (show decode kb1 11 = .ok (.iconst 0, 1) from by decide +kernel) rfl (by decide)
theorem pf1_74 : pfR tables_1 y1.cls y1.name 74 = some ("SuffixAutomat", 18, .int) := by decide +kernel
theorem m1_12 : M1 12 ls (.int v :: .ref b :: st) (put b pre s A post) Q = M1 15 ls st (put b pre (ou s 7 v) A post) Q := w_put (show decode kb1 12 = .ok (.putfield 74, 3) from by decide +kernel) pf1_74 put_o (Nat.zero_le _) (by show 18 < 20; omega) rfl put_s7
theorem m1_15 : M1 15 [.val (.ref r)] st H Q = M1 16 [.val (.ref r)] (.ref r :: st) H Q := w_x (show decode kb1 15 = .ok (.aload_n 0, 1) from by decide +kernel) rfl
theorem m1_16 : M1 16 ls st H Q = M1 17 ls (.int 0 :: st) H Q := w_con (show decode kb1 16 = .ok (.iconst 0, 1) from by decide +kernel) rfl (by decide)
theorem pf1_92 : pfR tables_1 y1.cls y1.name 92 = some ("SuffixAutomat", 19, .boolean) := by decide +kernel
theorem m1_17 : M1 17 ls (.int v :: .ref b :: st) (put b pre s A post) Q = M1 20 ls st (put b pre (ou s 8 (nar .boolean v)) A post) Q := w_put (show decode kb1 17 = .ok (.putfield 92, 3) from by decide +kernel) pf1_92 put_o (Nat.zero_le _) (by show 19 < 20; omega) rfl put_s8
theorem m1_20 : M1 20 [.val (.ref r)] st H Q = M1 21 [.val (.ref r)] (.ref r :: st) H Q := w_x (show decode kb1 20 = .ok (.aload_n 0, 1) from by decide +kernel) rfl
theorem m1_21 : M1 21 ls st H Q = M1 22 ls (.int 0 :: st) H Q := w_con (show decode kb1 21 = .ok (.iconst 0, 1) from by decide +kernel) rfl (by decide)
theorem cr1_96 : vR tables_1 dn y1 96 = some (true, y2, prog_1_method_19_code, 4, none, 1, 0) := pR_of (cR_of (by decide +kernel) rc_2 dn_2 dn_1 (sig := ⟨[.int], none⟩) (by decide +kernel) (by decide +kernel) rfl rfl) (by decide +kernel) (by decide +kernel)
theorem m1_22 (a0 : Int32) : M1 22 ls [.int a0, .ref b] (put b pre s A post) Q = M2 0 [.val (.ref b), .val (.int a0), .unset, .unset] [] (put b pre s A post) (fun v H1 => M1 25 ls (v.toList ++ []) H1 Q) := w_virt (as := [.int a0]) (rest := []) (a := b) (show decode kb1 22 = .ok (.invokevirtual 96, 3) from by decide +kernel) cr1_96 put_o rfl rfl (Nat.le_of_ble_eq_true rfl) (by show 2 ≤ 4; omega) rfl
theorem m1_25 : M1 25 ls [] H Q = Q none H := w_vret (show decode kb1 25 = .ok (.return_, 1) from by decide +kernel) rfl
theorem m2_0 : M2 0 [l0, .val (.int v), l2, l3] st H Q = M2 1 [l0, .val (.int v), l2, l3] (.int v :: st) H Q := w_x (show decode kb2 0 = .ok (.iload_n 1, 1) from by decide +kernel) rfl
theorem m2_1 : M2 1 ls (.int x :: st) H Q = if x < 0 then M2 11 ls st H Q else M2 4 ls st H Q := w_if (show decode kb2 1 = .ok (.ifCond .lt 10, 3) from by decide +kernel) (z_lt x) rfl
theorem m2_4 : M2 4 [l0, .val (.int v), l2, l3] st H Q = M2 5 [l0, .val (.int v), l2, l3] (.int v :: st) H Q := w_x (show decode kb2 4 = .ok (.iload_n 1, 1) from by decide +kernel) rfl
theorem m2_5 : M2 5 ls st H Q = M2 8 ls (.int 128 :: st) H Q := w_con (show decode kb2 5 = .ok (.sipush 128, 3) from by decide +kernel) rfl (by decide)
theorem m2_8 : M2 8 ls (.int y :: .int x :: st) H Q = if x < y then M2 12 ls st H Q else M2 11 ls st H Q := w_icmp (show decode kb2 8 = .ok (.if_icmp .lt 4, 3) from by decide +kernel) (i_lt x y) rfl
theorem m2_11 : M2 11 ls [] H Q = Q none H := w_vret (show decode kb2 11 = .ok (.return_, 1) from by decide +kernel) rfl
theorem m2_12 : M2 12 [.val (.ref r), l1, l2, l3] st H Q = M2 13 [.val (.ref r), l1, l2, l3] (.ref r :: st) H Q := w_x (show decode kb2 12 = .ok (.aload_n 0, 1) from by decide +kernel) rfl
theorem m2_13 : M2 13 ls (.ref b :: st) (put b pre s A post) Q = M2 16 ls (.ref (b + 6) :: st) (put b pre s A post) Q := w_get (show decode kb2 13 = .ok (.getfield 25, 3) from by decide +kernel) gf_25 put_o rfl
theorem m2_16 : M2 16 [l0, .val (.int v), l2, l3] st H Q = M2 17 [l0, .val (.int v), l2, l3] (.int v :: st) H Q := w_x (show decode kb2 16 = .ok (.iload_n 1, 1) from by decide +kernel) rfl
theorem m2_17 : M2 17 ls st H Q = M2 18 ls (.int 0 :: st) H Q := w_con (show decode kb2 17 = .ok (.iconst 0, 1) from by decide +kernel) rfl (by decide)
theorem m2_18  : M2 18 ls (.int v :: .int j :: .ref (b + 6) :: st) (put b pre s A post) Q = (inB j (A 5) ∧ M2 19 ls st (put b pre s (ou A 5 (setA (A 5) j v)) post) Q) := w_ist (show decode kb2 18 = .ok (.iastore, 1) from by decide +kernel) rfl put_a5 (Nat.zero_le _) rfl put_w5
theorem m2_19 : M2 19 [.val (.ref r), l1, l2, l3] st H Q = M2 20 [.val (.ref r), l1, l2, l3] (.ref r :: st) H Q := w_x (show decode kb2 19 = .ok (.aload_n 0, 1) from by decide +kernel) rfl
theorem m2_20 : M2 20 ls (.ref b :: st) (put b pre s A post) Q = M2 23 ls (.ref (b + 5) :: st) (put b pre s A post) Q := w_get (show decode kb2 20 = .ok (.getfield 22, 3) from by decide +kernel) gf_22 put_o rfl
theorem m2_23 : M2 23 [l0, .val (.int v), l2, l3] st H Q = M2 24 [l0, .val (.int v), l2, l3] (.int v :: st) H Q := w_x (show decode kb2 23 = .ok (.iload_n 1, 1) from by decide +kernel) rfl
theorem m2_24 : M2 24 ls st H Q = M2 25 ls (.int (-1) :: st) H Q := w_con (show decode kb2 24 = .ok (.iconst (-1), 1) from by decide +kernel) rfl (by decide)
theorem m2_25  : M2 25 ls (.int v :: .int j :: .ref (b + 5) :: st) (put b pre s A post) Q = (inB j (A 4) ∧ M2 26 ls st (put b pre s (ou A 4 (setA (A 4) j v)) post) Q) := w_ist (show decode kb2 25 = .ok (.iastore, 1) from by decide +kernel) rfl put_a4 (Nat.zero_le _) rfl put_w4
theorem m2_26 : M2 26 [.val (.ref r), l1, l2, l3] st H Q = M2 27 [.val (.ref r), l1, l2, l3] (.ref r :: st) H Q := w_x (show decode kb2 26 = .ok (.aload_n 0, 1) from by decide +kernel) rfl
theorem m2_27 : M2 27 ls (.ref b :: st) (put b pre s A post) Q = M2 30 ls (.ref (b + 7) :: st) (put b pre s A post) Q := w_get (show decode kb2 27 = .ok (.getfield 28, 3) from by decide +kernel) gf_28 put_o rfl
theorem m2_30 : M2 30 [l0, .val (.int v), l2, l3] st H Q = M2 31 [l0, .val (.int v), l2, l3] (.int v :: st) H Q := w_x (show decode kb2 30 = .ok (.iload_n 1, 1) from by decide +kernel) rfl
theorem m2_31 : M2 31 ls st H Q = M2 32 ls (.int 0 :: st) H Q := w_con (show decode kb2 31 = .ok (.iconst 0, 1) from by decide +kernel) rfl (by decide)
theorem m2_32  : M2 32 ls (.int v :: .int j :: .ref (b + 7) :: st) (put b pre s A post) Q = (inB j (A 6) ∧ M2 33 ls st (put b pre s (ou A 6 (setA (A 6) j v)) post) Q) := w_ist (show decode kb2 32 = .ok (.iastore, 1) from by decide +kernel) rfl put_a6 (Nat.zero_le _) rfl put_w6
theorem m2_33 : M2 33 [.val (.ref r), l1, l2, l3] st H Q = M2 34 [.val (.ref r), l1, l2, l3] (.ref r :: st) H Q := w_x (show decode kb2 33 = .ok (.aload_n 0, 1) from by decide +kernel) rfl
theorem m2_34 : M2 34 ls (.ref b :: st) (put b pre s A post) Q = M2 37 ls (.ref (b + 8) :: st) (put b pre s A post) Q := w_get (show decode kb2 34 = .ok (.getfield 31, 3) from by decide +kernel) gf_31 put_o rfl
theorem m2_37 : M2 37 [l0, .val (.int v), l2, l3] st H Q = M2 38 [l0, .val (.int v), l2, l3] (.int v :: st) H Q := w_x (show decode kb2 37 = .ok (.iload_n 1, 1) from by decide +kernel) rfl
theorem m2_38 : M2 38 ls st H Q = M2 39 ls (.int 0 :: st) H Q := w_con (show decode kb2 38 = .ok (.iconst 0, 1) from by decide +kernel) rfl (by decide)
theorem m2_39  : M2 39 ls (.int v :: .int j :: .ref (b + 8) :: st) (put b pre s A post) Q = (inB j (A 7) ∧ M2 40 ls st (put b pre s (ou A 7 (setA (A 7) j (nar .boolean v))) post) Q) := w_ist (show decode kb2 39 = .ok (.bastore, 1) from by decide +kernel) rfl put_a7 (Nat.zero_le _) rfl put_w7
theorem m2_40 : M2 40 [.val (.ref r), l1, l2, l3] st H Q = M2 41 [.val (.ref r), l1, l2, l3] (.ref r :: st) H Q := w_x (show decode kb2 40 = .ok (.aload_n 0, 1) from by decide +kernel) rfl
theorem m2_41 : M2 41 ls (.ref b :: st) (put b pre s A post) Q = M2 44 ls (.ref (b + 9) :: st) (put b pre s A post) Q := w_get (show decode kb2 41 = .ok (.getfield 35, 3) from by decide +kernel) gf_35 put_o rfl
theorem m2_44 : M2 44 [l0, .val (.int v), l2, l3] st H Q = M2 45 [l0, .val (.int v), l2, l3] (.int v :: st) H Q := w_x (show decode kb2 44 = .ok (.iload_n 1, 1) from by decide +kernel) rfl
theorem m2_45 : M2 45 ls st H Q = M2 46 ls (.int 0 :: st) H Q := w_con (show decode kb2 45 = .ok (.iconst 0, 1) from by decide +kernel) rfl (by decide)
theorem m2_46  : M2 46 ls (.int v :: .int j :: .ref (b + 9) :: st) (put b pre s A post) Q = (inB j (A 8) ∧ M2 47 ls st (put b pre s (ou A 8 (setA (A 8) j v)) post) Q) := w_ist (show decode kb2 46 = .ok (.iastore, 1) from by decide +kernel) rfl put_a8 (Nat.zero_le _) rfl put_w8
theorem m2_47 : M2 47 [l0, .val (.int v), l2, l3] st H Q = M2 48 [l0, .val (.int v), l2, l3] (.int v :: st) H Q := w_x (show decode kb2 47 = .ok (.iload_n 1, 1) from by decide +kernel) rfl
theorem m2_48 : M2 48 ls st H Q = M2 50 ls (.int 8 :: st) H Q := w_con (show decode kb2 48 = .ok (.bipush 8, 2) from by decide +kernel) rfl (by decide)
theorem m2_50 : M2 50 ls (.int y :: .int x :: st) H Q = M2 51 ls (.int (x * y) :: st) H Q := w_x (show decode kb2 50 = .ok (.imul, 1) from by decide +kernel) rfl
theorem m2_51u : M2 51 [l0, l1, .unset, l3] ((.int v) :: st) H Q = M2 52 [l0, l1, .val (.int v), l3] st H Q := w_st (i := 2) (p := isI) (show decode kb2 51 = .ok (.istore_n 2, 1) from by decide +kernel) rfl rfl rfl rfl rfl rfl
theorem m2_52 : M2 52 ls st H Q = M2 53 ls (.int 0 :: st) H Q := w_con (show decode kb2 52 = .ok (.iconst 0, 1) from by decide +kernel) rfl (by decide)
theorem m2_53u : M2 53 [l0, l1, l2, .unset] ((.int v) :: st) H Q = M2 54 [l0, l1, l2, .val (.int v)] st H Q := w_st (i := 3) (p := isI) (show decode kb2 53 = .ok (.istore_n 3, 1) from by decide +kernel) rfl rfl rfl rfl rfl rfl
theorem m2_54 : M2 54 [l0, l1, l2, .val (.int v)] st H Q = M2 55 [l0, l1, l2, .val (.int v)] (.int v :: st) H Q := w_x (show decode kb2 54 = .ok (.iload_n 3, 1) from by decide +kernel) rfl
theorem m2_55 : M2 55 ls st H Q = M2 57 ls (.int 8 :: st) H Q := w_con (show decode kb2 55 = .ok (.bipush 8, 2) from by decide +kernel) rfl (by decide)
theorem m2_57 : M2 57 ls (.int y :: .int x :: st) H Q = if x < y then M2 60 ls st H Q else M2 75 ls st H Q := w_icmpN (show decode kb2 57 = .ok (.if_icmp .ge 18, 3) from by decide +kernel) (i_ge x y) rfl
theorem m2_60 : M2 60 [.val (.ref r), l1, l2, l3] st H Q = M2 61 [.val (.ref r), l1, l2, l3] (.ref r :: st) H Q := w_x (show decode kb2 60 = .ok (.aload_n 0, 1) from by decide +kernel) rfl
theorem m2_61 : M2 61 ls (.ref b :: st) (put b pre s A post) Q = M2 64 ls (.ref (b + 4) :: st) (put b pre s A post) Q := w_get (show decode kb2 61 = .ok (.getfield 19, 3) from by decide +kernel) gf_19 put_o rfl
theorem m2_64 : M2 64 [l0, l1, .val (.int v), l3] st H Q = M2 65 [l0, l1, .val (.int v), l3] (.int v :: st) H Q := w_x (show decode kb2 64 = .ok (.iload_n 2, 1) from by decide +kernel) rfl
theorem m2_65 : M2 65 [l0, l1, l2, .val (.int v)] st H Q = M2 66 [l0, l1, l2, .val (.int v)] (.int v :: st) H Q := w_x (show decode kb2 65 = .ok (.iload_n 3, 1) from by decide +kernel) rfl
theorem m2_66 : M2 66 ls (.int y :: .int x :: st) H Q = M2 67 ls (.int (x + y) :: st) H Q := w_x (show decode kb2 66 = .ok (.iadd, 1) from by decide +kernel) rfl
theorem m2_67 : M2 67 ls st H Q = M2 68 ls (.int (-1) :: st) H Q := w_con (show decode kb2 67 = .ok (.iconst (-1), 1) from by decide +kernel) rfl (by decide)
theorem m2_68  : M2 68 ls (.int v :: .int j :: .ref (b + 4) :: st) (put b pre s A post) Q = (inB j (A 3) ∧ M2 69 ls st (put b pre s (ou A 3 (setA (A 3) j v)) post) Q) := w_ist (show decode kb2 68 = .ok (.iastore, 1) from by decide +kernel) rfl put_a3 (Nat.zero_le _) rfl put_w3
theorem m2_69 : M2 69 [l0, l1, l2, .val (.int v)] st H Q = M2 72 [l0, l1, l2, .val (.int (v + 1))] st H Q := w_iinc (show decode kb2 69 = .ok (.iinc 3 1, 3) from by decide +kernel) rfl (by decide) rfl
theorem m2_72 : M2 72 ls st H Q = M2 54 ls st H Q := w_x (show decode kb2 72 = .ok (.goto (-18), 3) from by decide +kernel) rfl
theorem m2_75 : M2 75 ls [] H Q = Q none H := w_vret (show decode kb2 75 = .ok (.return_, 1) from by decide +kernel) rfl
theorem m3_0 : M3 0 [l0, .val (.int v)] st H Q = M3 1 [l0, .val (.int v)] (.int v :: st) H Q := w_x (show decode kb3 0 = .ok (.iload_n 1, 1) from by decide +kernel) rfl
theorem m3_1 : M3 1 ls (.int x :: st) H Q = if x < 0 then M3 12 ls st H Q else M3 4 ls st H Q := w_if (show decode kb3 1 = .ok (.ifCond .lt 11, 3) from by decide +kernel) (z_lt x) rfl
theorem m3_4 : M3 4 [l0, .val (.int v)] st H Q = M3 5 [l0, .val (.int v)] (.int v :: st) H Q := w_x (show decode kb3 4 = .ok (.iload_n 1, 1) from by decide +kernel) rfl
theorem m3_5 : M3 5 [.val (.ref r), l1] st H Q = M3 6 [.val (.ref r), l1] (.ref r :: st) H Q := w_x (show decode kb3 5 = .ok (.aload_n 0, 1) from by decide +kernel) rfl
theorem m3_6 : M3 6 ls (.ref b :: st) (put b pre s A post) Q = M3 9 ls (.int (s 0) :: st) (put b pre s A post) Q := w_get (show decode kb3 6 = .ok (.getfield 44, 3) from by decide +kernel) gf_44 put_o rfl
theorem m3_9 : M3 9 ls (.int y :: .int x :: st) H Q = if x < y then M3 14 ls st H Q else M3 12 ls st H Q := w_icmp (show decode kb3 9 = .ok (.if_icmp .lt 5, 3) from by decide +kernel) (i_lt x y) rfl
theorem m3_12 : M3 12 ls st H Q = M3 13 ls (.int 0 :: st) H Q := w_con (show decode kb3 12 = .ok (.iconst 0, 1) from by decide +kernel) rfl (by decide)
theorem m3_13 : M3 13 ls (.int z :: st) H Q = Q (some (.int (nar .boolean z))) H := w_iretN (show decode kb3 13 = .ok (.ireturn, 1) from by decide +kernel) rfl (by simp)
theorem m3_14 : M3 14 [.val (.ref r), l1] st H Q = M3 15 [.val (.ref r), l1] (.ref r :: st) H Q := w_x (show decode kb3 14 = .ok (.aload_n 0, 1) from by decide +kernel) rfl
theorem m3_15 : M3 15 ls (.ref b :: st) (put b pre s A post) Q = M3 18 ls (.int (s 2) :: st) (put b pre s A post) Q := w_get (show decode kb3 15 = .ok (.getfield 51, 3) from by decide +kernel) gf_51 put_o rfl
theorem m3_18 : M3 18 [.val (.ref r), l1] st H Q = M3 19 [.val (.ref r), l1] (.ref r :: st) H Q := w_x (show decode kb3 18 = .ok (.aload_n 0, 1) from by decide +kernel) rfl
theorem m3_19 : M3 19 ls (.ref b :: st) (put b pre s A post) Q = M3 22 ls (.int (s 1) :: st) (put b pre s A post) Q := w_get (show decode kb3 19 = .ok (.getfield 48, 3) from by decide +kernel) gf_48 put_o rfl
theorem m3_22 : M3 22 ls (.int y :: .int x :: st) H Q = if x < y then M3 27 ls st H Q else M3 25 ls st H Q := w_icmp (show decode kb3 22 = .ok (.if_icmp .lt 5, 3) from by decide +kernel) (i_lt x y) rfl
theorem m3_25 : M3 25 ls st H Q = M3 26 ls (.int 0 :: st) H Q := w_con (show decode kb3 25 = .ok (.iconst 0, 1) from by decide +kernel) rfl (by decide)
theorem m3_26 : M3 26 ls (.int z :: st) H Q = Q (some (.int (nar .boolean z))) H := w_iretN (show decode kb3 26 = .ok (.ireturn, 1) from by decide +kernel) rfl (by simp)
theorem m3_27 : M3 27 [.val (.ref r), l1] st H Q = M3 28 [.val (.ref r), l1] (.ref r :: st) H Q := w_x (show decode kb3 27 = .ok (.aload_n 0, 1) from by decide +kernel) rfl
theorem m3_28 : M3 28 ls (.ref b :: st) (put b pre s A post) Q = M3 31 ls (.ref (b + 1) :: st) (put b pre s A post) Q := w_get (show decode kb3 28 = .ok (.getfield 7, 3) from by decide +kernel) gf_7 put_o rfl
theorem m3_31 : M3 31 [.val (.ref r), l1] st H Q = M3 32 [.val (.ref r), l1] (.ref r :: st) H Q := w_x (show decode kb3 31 = .ok (.aload_n 0, 1) from by decide +kernel) rfl
theorem m3_32 : M3 32 ls (.ref b :: st) (put b pre s A post) Q = M3 35 ls (.int (s 2) :: st) (put b pre s A post) Q := w_get (show decode kb3 32 = .ok (.getfield 51, 3) from by decide +kernel) gf_51 put_o rfl
theorem m3_35 : M3 35 [l0, .val (.int v)] st H Q = M3 36 [l0, .val (.int v)] (.int v :: st) H Q := w_x (show decode kb3 35 = .ok (.iload_n 1, 1) from by decide +kernel) rfl
theorem m3_36  : M3 36 ls (.int v :: .int j :: .ref (b + 1) :: st) (put b pre s A post) Q = (inB j (A 0) ∧ M3 37 ls st (put b pre s (ou A 0 (setA (A 0) j v)) post) Q) := w_ist (show decode kb3 36 = .ok (.iastore, 1) from by decide +kernel) rfl put_a0 (Nat.zero_le _) rfl put_w0
theorem m3_37 : M3 37 [.val (.ref r), l1] st H Q = M3 38 [.val (.ref r), l1] (.ref r :: st) H Q := w_x (show decode kb3 37 = .ok (.aload_n 0, 1) from by decide +kernel) rfl
theorem m3_38 : M3 38 ls ((.ref r) :: st) H Q = M3 39 ls ((.ref r) :: (.ref r) :: st) H Q := w_x (show decode kb3 38 = .ok (.dup, 1) from by decide +kernel) rfl
theorem m3_39 : M3 39 ls (.ref b :: st) (put b pre s A post) Q = M3 42 ls (.int (s 2) :: st) (put b pre s A post) Q := w_get (show decode kb3 39 = .ok (.getfield 51, 3) from by decide +kernel) gf_51 put_o rfl
theorem m3_42 : M3 42 ls st H Q = M3 43 ls (.int 1 :: st) H Q := w_con (show decode kb3 42 = .ok (.iconst 1, 1) from by decide +kernel) rfl (by decide)
theorem m3_43 : M3 43 ls (.int y :: .int x :: st) H Q = M3 44 ls (.int (x + y) :: st) H Q := w_x (show decode kb3 43 = .ok (.iadd, 1) from by decide +kernel) rfl
theorem pf3_51 : pfR tables_1 y3.cls y3.name 51 = some ("SuffixAutomat", 13, .int) := by decide +kernel
theorem m3_44 : M3 44 ls (.int v :: .ref b :: st) (put b pre s A post) Q = M3 47 ls st (put b pre (ou s 2 v) A post) Q := w_put (show decode kb3 44 = .ok (.putfield 51, 3) from by decide +kernel) pf3_51 put_o (Nat.zero_le _) (by show 13 < 20; omega) rfl put_s2
theorem m3_47 : M3 47 [.val (.ref r), l1] st H Q = M3 48 [.val (.ref r), l1] (.ref r :: st) H Q := w_x (show decode kb3 47 = .ok (.aload_n 0, 1) from by decide +kernel) rfl
theorem m3_48 : M3 48 [l0, .val (.int v)] st H Q = M3 49 [l0, .val (.int v)] (.int v :: st) H Q := w_x (show decode kb3 48 = .ok (.iload_n 1, 1) from by decide +kernel) rfl
theorem cr3_63 : vR tables_1 dn y3 63 = some (true, y4, prog_1_method_20_code, 5, none, 1, 0) := pR_of (cR_of (by decide +kernel) rc_4 dn_4 dn_3 (sig := ⟨[.int], none⟩) (by decide +kernel) (by decide +kernel) rfl rfl) (by decide +kernel) (by decide +kernel)
theorem m3_49 (a0 : Int32) : M3 49 ls [.int a0, .ref b] (put b pre s A post) Q = M4 0 [.val (.ref b), .val (.int a0), .unset, .unset, .unset] [] (put b pre s A post) (fun v H1 => M3 52 ls (v.toList ++ []) H1 Q) := w_virt (as := [.int a0]) (rest := []) (a := b) (show decode kb3 49 = .ok (.invokevirtual 63, 3) from by decide +kernel) cr3_63 put_o rfl rfl (Nat.le_of_ble_eq_true rfl) (by show 2 ≤ 5; omega) rfl
theorem m3_52 : M3 52 ls st H Q = M3 53 ls (.int 1 :: st) H Q := w_con (show decode kb3 52 = .ok (.iconst 1, 1) from by decide +kernel) rfl (by decide)
theorem m3_53 : M3 53 ls (.int z :: st) H Q = Q (some (.int (nar .boolean z))) H := w_iretN (show decode kb3 53 = .ok (.ireturn, 1) from by decide +kernel) rfl (by simp)
theorem m4_0 : M4 0 [.val (.ref r), l1, l2, l3, l4] st H Q = M4 1 [.val (.ref r), l1, l2, l3, l4] (.ref r :: st) H Q := w_x (show decode kb4 0 = .ok (.aload_n 0, 1) from by decide +kernel) rfl
theorem m4_1 : M4 1 ls (.ref b :: st) (put b pre s A post) Q = M4 4 ls (.int (s 5) :: st) (put b pre s A post) Q := w_get (show decode kb4 1 = .ok (.getfield 77, 3) from by decide +kernel) gf_77 put_o rfl
theorem m4_4 : M4 4 ls st H Q = M4 5 ls (.int 2 :: st) H Q := w_con (show decode kb4 4 = .ok (.iconst 2, 1) from by decide +kernel) rfl (by decide)
theorem m4_5 : M4 5 ls (.int y :: .int x :: st) H Q = M4 6 ls (.int (x + y) :: st) H Q := w_x (show decode kb4 5 = .ok (.iadd, 1) from by decide +kernel) rfl
theorem m4_6 : M4 6 ls st H Q = M4 9 ls (.int 128 :: st) H Q := w_con (show decode kb4 6 = .ok (.sipush 128, 3) from by decide +kernel) rfl (by decide)
theorem m4_9 : M4 9 ls (.int y :: .int x :: st) H Q = if y < x then M4 22 ls st H Q else M4 12 ls st H Q := w_icmp (show decode kb4 9 = .ok (.if_icmp .gt 13, 3) from by decide +kernel) (i_gt x y) rfl
theorem m4_12 : M4 12 [l0, .val (.int v), l2, l3, l4] st H Q = M4 13 [l0, .val (.int v), l2, l3, l4] (.int v :: st) H Q := w_x (show decode kb4 12 = .ok (.iload_n 1, 1) from by decide +kernel) rfl
theorem m4_13 : M4 13 ls (.int x :: st) H Q = if x < 0 then M4 22 ls st H Q else M4 16 ls st H Q := w_if (show decode kb4 13 = .ok (.ifCond .lt 9, 3) from by decide +kernel) (z_lt x) rfl
theorem m4_16 : M4 16 [l0, .val (.int v), l2, l3, l4] st H Q = M4 17 [l0, .val (.int v), l2, l3, l4] (.int v :: st) H Q := w_x (show decode kb4 16 = .ok (.iload_n 1, 1) from by decide +kernel) rfl
theorem m4_17 : M4 17 ls st H Q = M4 19 ls (.int 8 :: st) H Q := w_con (show decode kb4 17 = .ok (.bipush 8, 2) from by decide +kernel) rfl (by decide)
theorem m4_19 : M4 19 ls (.int y :: .int x :: st) H Q = if x < y then M4 23 ls st H Q else M4 22 ls st H Q := w_icmp (show decode kb4 19 = .ok (.if_icmp .lt 4, 3) from by decide +kernel) (i_lt x y) rfl
theorem m4_22 : M4 22 ls [] H Q = Q none H := w_vret (show decode kb4 22 = .ok (.return_, 1) from by decide +kernel) rfl
theorem m4_23 : M4 23 [.val (.ref r), l1, l2, l3, l4] st H Q = M4 24 [.val (.ref r), l1, l2, l3, l4] (.ref r :: st) H Q := w_x (show decode kb4 23 = .ok (.aload_n 0, 1) from by decide +kernel) rfl
theorem m4_24 : M4 24 ls (.ref b :: st) (put b pre s A post) Q = M4 27 ls (.int (s 5) :: st) (put b pre s A post) Q := w_get (show decode kb4 24 = .ok (.getfield 77, 3) from by decide +kernel) gf_77 put_o rfl
theorem m4_27u : M4 27 [l0, l1, .unset, l3, l4] ((.int v) :: st) H Q = M4 28 [l0, l1, .val (.int v), l3, l4] st H Q := w_st (i := 2) (p := isI) (show decode kb4 27 = .ok (.istore_n 2, 1) from by decide +kernel) rfl rfl rfl rfl rfl rfl
theorem m4_28 : M4 28 [.val (.ref r), l1, l2, l3, l4] st H Q = M4 29 [.val (.ref r), l1, l2, l3, l4] (.ref r :: st) H Q := w_x (show decode kb4 28 = .ok (.aload_n 0, 1) from by decide +kernel) rfl
theorem m4_29 : M4 29 ls ((.ref r) :: st) H Q = M4 30 ls ((.ref r) :: (.ref r) :: st) H Q := w_x (show decode kb4 29 = .ok (.dup, 1) from by decide +kernel) rfl
theorem m4_30 : M4 30 ls (.ref b :: st) (put b pre s A post) Q = M4 33 ls (.int (s 5) :: st) (put b pre s A post) Q := w_get (show decode kb4 30 = .ok (.getfield 77, 3) from by decide +kernel) gf_77 put_o rfl
theorem m4_33 : M4 33 ls st H Q = M4 34 ls (.int 1 :: st) H Q := w_con (show decode kb4 33 = .ok (.iconst 1, 1) from by decide +kernel) rfl (by decide)
theorem m4_34 : M4 34 ls (.int y :: .int x :: st) H Q = M4 35 ls (.int (x + y) :: st) H Q := w_x (show decode kb4 34 = .ok (.iadd, 1) from by decide +kernel) rfl
theorem pf4_77 : pfR tables_1 y4.cls y4.name 77 = some ("SuffixAutomat", 16, .int) := by decide +kernel
theorem m4_35 : M4 35 ls (.int v :: .ref b :: st) (put b pre s A post) Q = M4 38 ls st (put b pre (ou s 5 v) A post) Q := w_put (show decode kb4 35 = .ok (.putfield 77, 3) from by decide +kernel) pf4_77 put_o (Nat.zero_le _) (by show 16 < 20; omega) rfl put_s5
theorem m4_38 : M4 38 [.val (.ref r), l1, l2, l3, l4] st H Q = M4 39 [.val (.ref r), l1, l2, l3, l4] (.ref r :: st) H Q := w_x (show decode kb4 38 = .ok (.aload_n 0, 1) from by decide +kernel) rfl
theorem m4_39 : M4 39 [l0, l1, .val (.int v), l3, l4] st H Q = M4 40 [l0, l1, .val (.int v), l3, l4] (.int v :: st) H Q := w_x (show decode kb4 39 = .ok (.iload_n 2, 1) from by decide +kernel) rfl
theorem cr4_96 : vR tables_1 dn y4 96 = some (true, y2, prog_1_method_19_code, 4, none, 1, 21) := pR_of (cR_of (by decide +kernel) rc_2 dn_2 dn_4 (sig := ⟨[.int], none⟩) (by decide +kernel) (by decide +kernel) rfl rfl) (by decide +kernel) (by decide +kernel)
theorem m4_40 (a0 : Int32) : M4 40 ls [.int a0, .ref b] (put b pre s A post) Q = M2 0 [.val (.ref b), .val (.int a0), .unset, .unset] [] (put b pre s A post) (fun v H1 => M4 43 ls (v.toList ++ []) H1 Q) := w_virt (as := [.int a0]) (rest := []) (a := b) (show decode kb4 40 = .ok (.invokevirtual 96, 3) from by decide +kernel) cr4_96 put_o rfl rfl (Nat.le_of_ble_eq_true rfl) (by show 2 ≤ 4; omega) rfl
theorem m4_43 : M4 43 [.val (.ref r), l1, l2, l3, l4] st H Q = M4 44 [.val (.ref r), l1, l2, l3, l4] (.ref r :: st) H Q := w_x (show decode kb4 43 = .ok (.aload_n 0, 1) from by decide +kernel) rfl
theorem m4_44 : M4 44 ls (.ref b :: st) (put b pre s A post) Q = M4 47 ls (.ref (b + 6) :: st) (put b pre s A post) Q := w_get (show decode kb4 44 = .ok (.getfield 25, 3) from by decide +kernel) gf_25 put_o rfl
theorem m4_47 : M4 47 [l0, l1, .val (.int v), l3, l4] st H Q = M4 48 [l0, l1, .val (.int v), l3, l4] (.int v :: st) H Q := w_x (show decode kb4 47 = .ok (.iload_n 2, 1) from by decide +kernel) rfl
theorem m4_48 : M4 48 [.val (.ref r), l1, l2, l3, l4] st H Q = M4 49 [.val (.ref r), l1, l2, l3, l4] (.ref r :: st) H Q := w_x (show decode kb4 48 = .ok (.aload_n 0, 1) from by decide +kernel) rfl
theorem m4_49 : M4 49 ls (.ref b :: st) (put b pre s A post) Q = M4 52 ls (.ref (b + 6) :: st) (put b pre s A post) Q := w_get (show decode kb4 49 = .ok (.getfield 25, 3) from by decide +kernel) gf_25 put_o rfl
theorem m4_52 : M4 52 [.val (.ref r), l1, l2, l3, l4] st H Q = M4 53 [.val (.ref r), l1, l2, l3, l4] (.ref r :: st) H Q := w_x (show decode kb4 52 = .ok (.aload_n 0, 1) from by decide +kernel) rfl
theorem m4_53 : M4 53 ls (.ref b :: st) (put b pre s A post) Q = M4 56 ls (.int (s 6) :: st) (put b pre s A post) Q := w_get (show decode kb4 53 = .ok (.getfield 89, 3) from by decide +kernel) gf_89 put_o rfl
theorem m4_56  : M4 56 ls (.int j :: .ref (b + 6) :: st) (put b pre s A post) Q = (inB j (A 5) ∧ M4 57 ls (.int (getA (A 5) j) :: st) (put b pre s A post) Q) := w_ild (show decode kb4 56 = .ok (.iaload, 1) from by decide +kernel) rfl put_a5
theorem m4_57 : M4 57 ls st H Q = M4 58 ls (.int 1 :: st) H Q := w_con (show decode kb4 57 = .ok (.iconst 1, 1) from by decide +kernel) rfl (by decide)
theorem m4_58 : M4 58 ls (.int y :: .int x :: st) H Q = M4 59 ls (.int (x + y) :: st) H Q := w_x (show decode kb4 58 = .ok (.iadd, 1) from by decide +kernel) rfl
theorem m4_59  : M4 59 ls (.int v :: .int j :: .ref (b + 6) :: st) (put b pre s A post) Q = (inB j (A 5) ∧ M4 60 ls st (put b pre s (ou A 5 (setA (A 5) j v)) post) Q) := w_ist (show decode kb4 59 = .ok (.iastore, 1) from by decide +kernel) rfl put_a5 (Nat.zero_le _) rfl put_w5
theorem m4_60 : M4 60 [.val (.ref r), l1, l2, l3, l4] st H Q = M4 61 [.val (.ref r), l1, l2, l3, l4] (.ref r :: st) H Q := w_x (show decode kb4 60 = .ok (.aload_n 0, 1) from by decide +kernel) rfl
theorem m4_61 : M4 61 ls (.ref b :: st) (put b pre s A post) Q = M4 64 ls (.ref (b + 7) :: st) (put b pre s A post) Q := w_get (show decode kb4 61 = .ok (.getfield 28, 3) from by decide +kernel) gf_28 put_o rfl
theorem m4_64 : M4 64 [l0, l1, .val (.int v), l3, l4] st H Q = M4 65 [l0, l1, .val (.int v), l3, l4] (.int v :: st) H Q := w_x (show decode kb4 64 = .ok (.iload_n 2, 1) from by decide +kernel) rfl
theorem m4_65 : M4 65 [.val (.ref r), l1, l2, l3, l4] st H Q = M4 66 [.val (.ref r), l1, l2, l3, l4] (.ref r :: st) H Q := w_x (show decode kb4 65 = .ok (.aload_n 0, 1) from by decide +kernel) rfl
theorem m4_66 : M4 66 ls (.ref b :: st) (put b pre s A post) Q = M4 69 ls (.ref (b + 6) :: st) (put b pre s A post) Q := w_get (show decode kb4 66 = .ok (.getfield 25, 3) from by decide +kernel) gf_25 put_o rfl
theorem m4_69 : M4 69 [l0, l1, .val (.int v), l3, l4] st H Q = M4 70 [l0, l1, .val (.int v), l3, l4] (.int v :: st) H Q := w_x (show decode kb4 69 = .ok (.iload_n 2, 1) from by decide +kernel) rfl
theorem m4_70  : M4 70 ls (.int j :: .ref (b + 6) :: st) (put b pre s A post) Q = (inB j (A 5) ∧ M4 71 ls (.int (getA (A 5) j) :: st) (put b pre s A post) Q) := w_ild (show decode kb4 70 = .ok (.iaload, 1) from by decide +kernel) rfl put_a5
theorem m4_71 : M4 71 ls st H Q = M4 72 ls (.int 1 :: st) H Q := w_con (show decode kb4 71 = .ok (.iconst 1, 1) from by decide +kernel) rfl (by decide)
theorem m4_72 : M4 72 ls (.int y :: .int x :: st) H Q = M4 73 ls (.int (x - y) :: st) H Q := w_x (show decode kb4 72 = .ok (.isub, 1) from by decide +kernel) rfl
theorem m4_73  : M4 73 ls (.int v :: .int j :: .ref (b + 7) :: st) (put b pre s A post) Q = (inB j (A 6) ∧ M4 74 ls st (put b pre s (ou A 6 (setA (A 6) j v)) post) Q) := w_ist (show decode kb4 73 = .ok (.iastore, 1) from by decide +kernel) rfl put_a6 (Nat.zero_le _) rfl put_w6
theorem m4_74 : M4 74 [.val (.ref r), l1, l2, l3, l4] st H Q = M4 75 [.val (.ref r), l1, l2, l3, l4] (.ref r :: st) H Q := w_x (show decode kb4 74 = .ok (.aload_n 0, 1) from by decide +kernel) rfl
theorem m4_75 : M4 75 [.val (.ref r), l1, l2, l3, l4] st H Q = M4 76 [.val (.ref r), l1, l2, l3, l4] (.ref r :: st) H Q := w_x (show decode kb4 75 = .ok (.aload_n 0, 1) from by decide +kernel) rfl
theorem m4_76 : M4 76 ls (.ref b :: st) (put b pre s A post) Q = M4 79 ls (.int (s 6) :: st) (put b pre s A post) Q := w_get (show decode kb4 76 = .ok (.getfield 89, 3) from by decide +kernel) gf_89 put_o rfl
theorem m4_79 : M4 79 [l0, .val (.int v), l2, l3, l4] st H Q = M4 80 [l0, .val (.int v), l2, l3, l4] (.int v :: st) H Q := w_x (show decode kb4 79 = .ok (.iload_n 1, 1) from by decide +kernel) rfl
theorem m4_80 : M4 80 [l0, l1, .val (.int v), l3, l4] st H Q = M4 81 [l0, l1, .val (.int v), l3, l4] (.int v :: st) H Q := w_x (show decode kb4 80 = .ok (.iload_n 2, 1) from by decide +kernel) rfl
theorem cr4_99 : vR tables_1 dn y4 99 = some (true, y5, prog_1_method_21_code, 6, (some .int), 3, 19) := pR_of (cR_of (by decide +kernel) rc_5 dn_5 dn_4 (sig := ⟨[.int, .int, .int], some .int⟩) (by decide +kernel) (by decide +kernel) rfl rfl) (by decide +kernel) (by decide +kernel)
theorem m4_81 (a0 : Int32) (a1 : Int32) (a2 : Int32) : M4 81 ls [.int a2, .int a1, .int a0, .ref b] (put b pre s A post) Q = M5 0 [.val (.ref b), .val (.int a0), .val (.int a1), .val (.int a2), .unset, .unset] [] (put b pre s A post) (fun v H1 => M4 84 ls (v.toList ++ []) H1 Q) := w_virt (as := [.int a2, .int a1, .int a0]) (rest := []) (a := b) (show decode kb4 81 = .ok (.invokevirtual 99, 3) from by decide +kernel) cr4_99 put_o rfl rfl (Nat.le_of_ble_eq_true rfl) (by show 4 ≤ 6; omega) rfl
theorem m4_84u : M4 84 [l0, l1, l2, .unset, l4] ((.int v) :: st) H Q = M4 85 [l0, l1, l2, .val (.int v), l4] st H Q := w_st (i := 3) (p := isI) (show decode kb4 84 = .ok (.istore_n 3, 1) from by decide +kernel) rfl rfl rfl rfl rfl rfl
theorem m4_85 : M4 85 [l0, l1, l2, .val (.int v), l4] st H Q = M4 86 [l0, l1, l2, .val (.int v), l4] (.int v :: st) H Q := w_x (show decode kb4 85 = .ok (.iload_n 3, 1) from by decide +kernel) rfl
theorem m4_86 : M4 86 ls (.int x :: st) H Q = if x < 0 then M4 89 ls st H Q else M4 99 ls st H Q := w_ifN (show decode kb4 86 = .ok (.ifCond .ge 13, 3) from by decide +kernel) (z_ge x) rfl
theorem m4_89 : M4 89 [.val (.ref r), l1, l2, l3, l4] st H Q = M4 90 [.val (.ref r), l1, l2, l3, l4] (.ref r :: st) H Q := w_x (show decode kb4 89 = .ok (.aload_n 0, 1) from by decide +kernel) rfl
theorem m4_90 : M4 90 ls (.ref b :: st) (put b pre s A post) Q = M4 93 ls (.ref (b + 5) :: st) (put b pre s A post) Q := w_get (show decode kb4 90 = .ok (.getfield 22, 3) from by decide +kernel) gf_22 put_o rfl
theorem m4_93 : M4 93 [l0, l1, .val (.int v), l3, l4] st H Q = M4 94 [l0, l1, .val (.int v), l3, l4] (.int v :: st) H Q := w_x (show decode kb4 93 = .ok (.iload_n 2, 1) from by decide +kernel) rfl
theorem m4_94 : M4 94 ls st H Q = M4 95 ls (.int 0 :: st) H Q := w_con (show decode kb4 94 = .ok (.iconst 0, 1) from by decide +kernel) rfl (by decide)
theorem m4_95  : M4 95 ls (.int v :: .int j :: .ref (b + 5) :: st) (put b pre s A post) Q = (inB j (A 4) ∧ M4 96 ls st (put b pre s (ou A 4 (setA (A 4) j v)) post) Q) := w_ist (show decode kb4 95 = .ok (.iastore, 1) from by decide +kernel) rfl put_a4 (Nat.zero_le _) rfl put_w4
theorem m4_96 : M4 96 ls st H Q = M4 150 ls st H Q := w_x (show decode kb4 96 = .ok (.goto 54, 3) from by decide +kernel) rfl
theorem m4_99 : M4 99 [.val (.ref r), l1, l2, l3, l4] st H Q = M4 100 [.val (.ref r), l1, l2, l3, l4] (.ref r :: st) H Q := w_x (show decode kb4 99 = .ok (.aload_n 0, 1) from by decide +kernel) rfl
theorem m4_100 : M4 100 ls (.ref b :: st) (put b pre s A post) Q = M4 103 ls (.ref (b + 4) :: st) (put b pre s A post) Q := w_get (show decode kb4 100 = .ok (.getfield 19, 3) from by decide +kernel) gf_19 put_o rfl
theorem m4_103 : M4 103 [l0, l1, l2, .val (.int v), l4] st H Q = M4 104 [l0, l1, l2, .val (.int v), l4] (.int v :: st) H Q := w_x (show decode kb4 103 = .ok (.iload_n 3, 1) from by decide +kernel) rfl
theorem m4_104 : M4 104 ls st H Q = M4 106 ls (.int 8 :: st) H Q := w_con (show decode kb4 104 = .ok (.bipush 8, 2) from by decide +kernel) rfl (by decide)
theorem m4_106 : M4 106 ls (.int y :: .int x :: st) H Q = M4 107 ls (.int (x * y) :: st) H Q := w_x (show decode kb4 106 = .ok (.imul, 1) from by decide +kernel) rfl
theorem m4_107 : M4 107 [l0, .val (.int v), l2, l3, l4] st H Q = M4 108 [l0, .val (.int v), l2, l3, l4] (.int v :: st) H Q := w_x (show decode kb4 107 = .ok (.iload_n 1, 1) from by decide +kernel) rfl
theorem m4_108 : M4 108 ls (.int y :: .int x :: st) H Q = M4 109 ls (.int (x + y) :: st) H Q := w_x (show decode kb4 108 = .ok (.iadd, 1) from by decide +kernel) rfl
theorem m4_109  : M4 109 ls (.int j :: .ref (b + 4) :: st) (put b pre s A post) Q = (inB j (A 3) ∧ M4 110 ls (.int (getA (A 3) j) :: st) (put b pre s A post) Q) := w_ild (show decode kb4 109 = .ok (.iaload, 1) from by decide +kernel) rfl put_a3
theorem m4_110u : M4 110 [l0, l1, l2, l3, .unset] ((.int v) :: st) H Q = M4 112 [l0, l1, l2, l3, .val (.int v)] st H Q := w_st (i := 4) (p := isI) (show decode kb4 110 = .ok (.istore 4, 2) from by decide +kernel) rfl rfl rfl rfl rfl rfl
theorem m4_112 : M4 112 [.val (.ref r), l1, l2, l3, l4] st H Q = M4 113 [.val (.ref r), l1, l2, l3, l4] (.ref r :: st) H Q := w_x (show decode kb4 112 = .ok (.aload_n 0, 1) from by decide +kernel) rfl
theorem m4_113 : M4 113 ls (.ref b :: st) (put b pre s A post) Q = M4 116 ls (.ref (b + 6) :: st) (put b pre s A post) Q := w_get (show decode kb4 113 = .ok (.getfield 25, 3) from by decide +kernel) gf_25 put_o rfl
theorem m4_116 : M4 116 [l0, l1, l2, .val (.int v), l4] st H Q = M4 117 [l0, l1, l2, .val (.int v), l4] (.int v :: st) H Q := w_x (show decode kb4 116 = .ok (.iload_n 3, 1) from by decide +kernel) rfl
theorem m4_117  : M4 117 ls (.int j :: .ref (b + 6) :: st) (put b pre s A post) Q = (inB j (A 5) ∧ M4 118 ls (.int (getA (A 5) j) :: st) (put b pre s A post) Q) := w_ild (show decode kb4 117 = .ok (.iaload, 1) from by decide +kernel) rfl put_a5
theorem m4_118 : M4 118 ls st H Q = M4 119 ls (.int 1 :: st) H Q := w_con (show decode kb4 118 = .ok (.iconst 1, 1) from by decide +kernel) rfl (by decide)
theorem m4_119 : M4 119 ls (.int y :: .int x :: st) H Q = M4 120 ls (.int (x + y) :: st) H Q := w_x (show decode kb4 119 = .ok (.iadd, 1) from by decide +kernel) rfl
theorem m4_120 : M4 120 [.val (.ref r), l1, l2, l3, l4] st H Q = M4 121 [.val (.ref r), l1, l2, l3, l4] (.ref r :: st) H Q := w_x (show decode kb4 120 = .ok (.aload_n 0, 1) from by decide +kernel) rfl
theorem m4_121 : M4 121 ls (.ref b :: st) (put b pre s A post) Q = M4 124 ls (.ref (b + 6) :: st) (put b pre s A post) Q := w_get (show decode kb4 121 = .ok (.getfield 25, 3) from by decide +kernel) gf_25 put_o rfl
theorem m4_124 : M4 124 [l0, l1, l2, l3, .val (.int v)] st H Q = M4 126 [l0, l1, l2, l3, .val (.int v)] (.int v :: st) H Q := w_x (show decode kb4 124 = .ok (.iload 4, 2) from by decide +kernel) rfl
theorem m4_126  : M4 126 ls (.int j :: .ref (b + 6) :: st) (put b pre s A post) Q = (inB j (A 5) ∧ M4 127 ls (.int (getA (A 5) j) :: st) (put b pre s A post) Q) := w_ild (show decode kb4 126 = .ok (.iaload, 1) from by decide +kernel) rfl put_a5
theorem m4_127 : M4 127 ls (.int y :: .int x :: st) H Q = if x = y then M4 130 ls st H Q else M4 141 ls st H Q := w_icmpN (show decode kb4 127 = .ok (.if_icmp .ne 14, 3) from by decide +kernel) (i_ne x y) rfl
theorem m4_130 : M4 130 [.val (.ref r), l1, l2, l3, l4] st H Q = M4 131 [.val (.ref r), l1, l2, l3, l4] (.ref r :: st) H Q := w_x (show decode kb4 130 = .ok (.aload_n 0, 1) from by decide +kernel) rfl
theorem m4_131 : M4 131 ls (.ref b :: st) (put b pre s A post) Q = M4 134 ls (.ref (b + 5) :: st) (put b pre s A post) Q := w_get (show decode kb4 131 = .ok (.getfield 22, 3) from by decide +kernel) gf_22 put_o rfl
theorem m4_134 : M4 134 [l0, l1, .val (.int v), l3, l4] st H Q = M4 135 [l0, l1, .val (.int v), l3, l4] (.int v :: st) H Q := w_x (show decode kb4 134 = .ok (.iload_n 2, 1) from by decide +kernel) rfl
theorem m4_135 : M4 135 [l0, l1, l2, l3, .val (.int v)] st H Q = M4 137 [l0, l1, l2, l3, .val (.int v)] (.int v :: st) H Q := w_x (show decode kb4 135 = .ok (.iload 4, 2) from by decide +kernel) rfl
theorem m4_137  : M4 137 ls (.int v :: .int j :: .ref (b + 5) :: st) (put b pre s A post) Q = (inB j (A 4) ∧ M4 138 ls st (put b pre s (ou A 4 (setA (A 4) j v)) post) Q) := w_ist (show decode kb4 137 = .ok (.iastore, 1) from by decide +kernel) rfl put_a4 (Nat.zero_le _) rfl put_w4
theorem m4_138 : M4 138 ls st H Q = M4 150 ls st H Q := w_x (show decode kb4 138 = .ok (.goto 12, 3) from by decide +kernel) rfl
theorem m4_141 : M4 141 [.val (.ref r), l1, l2, l3, l4] st H Q = M4 142 [.val (.ref r), l1, l2, l3, l4] (.ref r :: st) H Q := w_x (show decode kb4 141 = .ok (.aload_n 0, 1) from by decide +kernel) rfl
theorem m4_142 : M4 142 [l0, l1, l2, .val (.int v), l4] st H Q = M4 143 [l0, l1, l2, .val (.int v), l4] (.int v :: st) H Q := w_x (show decode kb4 142 = .ok (.iload_n 3, 1) from by decide +kernel) rfl
theorem m4_143 : M4 143 [l0, .val (.int v), l2, l3, l4] st H Q = M4 144 [l0, .val (.int v), l2, l3, l4] (.int v :: st) H Q := w_x (show decode kb4 143 = .ok (.iload_n 1, 1) from by decide +kernel) rfl
theorem m4_144 : M4 144 [l0, l1, l2, l3, .val (.int v)] st H Q = M4 146 [l0, l1, l2, l3, .val (.int v)] (.int v :: st) H Q := w_x (show decode kb4 144 = .ok (.iload 4, 2) from by decide +kernel) rfl
theorem m4_146 : M4 146 [l0, l1, .val (.int v), l3, l4] st H Q = M4 147 [l0, l1, .val (.int v), l3, l4] (.int v :: st) H Q := w_x (show decode kb4 146 = .ok (.iload_n 2, 1) from by decide +kernel) rfl
theorem cr4_103 : vR tables_1 dn y4 103 = some (true, y17, prog_1_method_22_code, 10, none, 4, 0) := pR_of (cR_of (by decide +kernel) rc_17 dn_17 dn_4 (sig := ⟨[.int, .int, .int, .int], none⟩) (by decide +kernel) (by decide +kernel) rfl rfl) (by decide +kernel) (by decide +kernel)
theorem m4_147 (a0 : Int32) (a1 : Int32) (a2 : Int32) (a3 : Int32) : M4 147 ls [.int a3, .int a2, .int a1, .int a0, .ref b] (put b pre s A post) Q = M17 0 [.val (.ref b), .val (.int a0), .val (.int a1), .val (.int a2), .val (.int a3), .unset, .unset, .unset, .unset, .unset] [] (put b pre s A post) (fun v H1 => M4 150 ls (v.toList ++ []) H1 Q) := w_virt (as := [.int a3, .int a2, .int a1, .int a0]) (rest := []) (a := b) (show decode kb4 147 = .ok (.invokevirtual 103, 3) from by decide +kernel) cr4_103 put_o rfl rfl (Nat.le_of_ble_eq_true rfl) (by show 5 ≤ 10; omega) rfl
theorem m4_150 : M4 150 [.val (.ref r), l1, l2, l3, l4] st H Q = M4 151 [.val (.ref r), l1, l2, l3, l4] (.ref r :: st) H Q := w_x (show decode kb4 150 = .ok (.aload_n 0, 1) from by decide +kernel) rfl
theorem m4_151 : M4 151 [l0, l1, .val (.int v), l3, l4] st H Q = M4 152 [l0, l1, .val (.int v), l3, l4] (.int v :: st) H Q := w_x (show decode kb4 151 = .ok (.iload_n 2, 1) from by decide +kernel) rfl
theorem pf4_89 : pfR tables_1 y4.cls y4.name 89 = some ("SuffixAutomat", 17, .int) := by decide +kernel
theorem m4_152 : M4 152 ls (.int v :: .ref b :: st) (put b pre s A post) Q = M4 155 ls st (put b pre (ou s 6 v) A post) Q := w_put (show decode kb4 152 = .ok (.putfield 89, 3) from by decide +kernel) pf4_89 put_o (Nat.zero_le _) (by show 17 < 20; omega) rfl put_s6
theorem m4_155 : M4 155 [.val (.ref r), l1, l2, l3, l4] st H Q = M4 156 [.val (.ref r), l1, l2, l3, l4] (.ref r :: st) H Q := w_x (show decode kb4 155 = .ok (.aload_n 0, 1) from by decide +kernel) rfl
theorem m4_156 : M4 156 ls ((.ref r) :: st) H Q = M4 157 ls ((.ref r) :: (.ref r) :: st) H Q := w_x (show decode kb4 156 = .ok (.dup, 1) from by decide +kernel) rfl
theorem m4_157 : M4 157 ls (.ref b :: st) (put b pre s A post) Q = M4 160 ls (.int (s 7) :: st) (put b pre s A post) Q := w_get (show decode kb4 157 = .ok (.getfield 74, 3) from by decide +kernel) gf_74 put_o rfl
theorem m4_160 : M4 160 [.val (.ref r), l1, l2, l3, l4] st H Q = M4 161 [.val (.ref r), l1, l2, l3, l4] (.ref r :: st) H Q := w_x (show decode kb4 160 = .ok (.aload_n 0, 1) from by decide +kernel) rfl
theorem m4_161 : M4 161 ls (.ref b :: st) (put b pre s A post) Q = M4 164 ls (.ref (b + 6) :: st) (put b pre s A post) Q := w_get (show decode kb4 161 = .ok (.getfield 25, 3) from by decide +kernel) gf_25 put_o rfl
theorem m4_164 : M4 164 [l0, l1, .val (.int v), l3, l4] st H Q = M4 165 [l0, l1, .val (.int v), l3, l4] (.int v :: st) H Q := w_x (show decode kb4 164 = .ok (.iload_n 2, 1) from by decide +kernel) rfl
theorem m4_165  : M4 165 ls (.int j :: .ref (b + 6) :: st) (put b pre s A post) Q = (inB j (A 5) ∧ M4 166 ls (.int (getA (A 5) j) :: st) (put b pre s A post) Q) := w_ild (show decode kb4 165 = .ok (.iaload, 1) from by decide +kernel) rfl put_a5
theorem m4_166 : M4 166 [.val (.ref r), l1, l2, l3, l4] st H Q = M4 167 [.val (.ref r), l1, l2, l3, l4] (.ref r :: st) H Q := w_x (show decode kb4 166 = .ok (.aload_n 0, 1) from by decide +kernel) rfl
theorem m4_167 : M4 167 ls (.ref b :: st) (put b pre s A post) Q = M4 170 ls (.ref (b + 6) :: st) (put b pre s A post) Q := w_get (show decode kb4 167 = .ok (.getfield 25, 3) from by decide +kernel) gf_25 put_o rfl
theorem m4_170 : M4 170 [.val (.ref r), l1, l2, l3, l4] st H Q = M4 171 [.val (.ref r), l1, l2, l3, l4] (.ref r :: st) H Q := w_x (show decode kb4 170 = .ok (.aload_n 0, 1) from by decide +kernel) rfl
theorem m4_171 : M4 171 ls (.ref b :: st) (put b pre s A post) Q = M4 174 ls (.ref (b + 5) :: st) (put b pre s A post) Q := w_get (show decode kb4 171 = .ok (.getfield 22, 3) from by decide +kernel) gf_22 put_o rfl
theorem m4_174 : M4 174 [l0, l1, .val (.int v), l3, l4] st H Q = M4 175 [l0, l1, .val (.int v), l3, l4] (.int v :: st) H Q := w_x (show decode kb4 174 = .ok (.iload_n 2, 1) from by decide +kernel) rfl
theorem m4_175  : M4 175 ls (.int j :: .ref (b + 5) :: st) (put b pre s A post) Q = (inB j (A 4) ∧ M4 176 ls (.int (getA (A 4) j) :: st) (put b pre s A post) Q) := w_ild (show decode kb4 175 = .ok (.iaload, 1) from by decide +kernel) rfl put_a4
theorem m4_176  : M4 176 ls (.int j :: .ref (b + 6) :: st) (put b pre s A post) Q = (inB j (A 5) ∧ M4 177 ls (.int (getA (A 5) j) :: st) (put b pre s A post) Q) := w_ild (show decode kb4 176 = .ok (.iaload, 1) from by decide +kernel) rfl put_a5
theorem m4_177 : M4 177 ls (.int y :: .int x :: st) H Q = M4 178 ls (.int (x - y) :: st) H Q := w_x (show decode kb4 177 = .ok (.isub, 1) from by decide +kernel) rfl
theorem m4_178 : M4 178 ls (.int y :: .int x :: st) H Q = M4 179 ls (.int (x + y) :: st) H Q := w_x (show decode kb4 178 = .ok (.iadd, 1) from by decide +kernel) rfl
theorem pf4_74 : pfR tables_1 y4.cls y4.name 74 = some ("SuffixAutomat", 18, .int) := by decide +kernel
theorem m4_179 : M4 179 ls (.int v :: .ref b :: st) (put b pre s A post) Q = M4 182 ls st (put b pre (ou s 7 v) A post) Q := w_put (show decode kb4 179 = .ok (.putfield 74, 3) from by decide +kernel) pf4_74 put_o (Nat.zero_le _) (by show 18 < 20; omega) rfl put_s7
theorem m4_182 : M4 182 [.val (.ref r), l1, l2, l3, l4] st H Q = M4 183 [.val (.ref r), l1, l2, l3, l4] (.ref r :: st) H Q := w_x (show decode kb4 182 = .ok (.aload_n 0, 1) from by decide +kernel) rfl
theorem m4_183 : M4 183 ls st H Q = M4 184 ls (.int 0 :: st) H Q := w_con (show decode kb4 183 = .ok (.iconst 0, 1) from by decide +kernel) rfl (by decide)
theorem pf4_92 : pfR tables_1 y4.cls y4.name 92 = some ("SuffixAutomat", 19, .boolean) := by decide +kernel
theorem m4_184 : M4 184 ls (.int v :: .ref b :: st) (put b pre s A post) Q = M4 187 ls st (put b pre (ou s 8 (nar .boolean v)) A post) Q := w_put (show decode kb4 184 = .ok (.putfield 92, 3) from by decide +kernel) pf4_92 put_o (Nat.zero_le _) (by show 19 < 20; omega) rfl put_s8
theorem m4_187 : M4 187 ls [] H Q = Q none H := w_vret (show decode kb4 187 = .ok (.return_, 1) from by decide +kernel) rfl
theorem m5_0 : M5 0 [l0, .val (.int v), l2, l3, l4, l5] st H Q = M5 1 [l0, .val (.int v), l2, l3, l4, l5] (.int v :: st) H Q := w_x (show decode kb5 0 = .ok (.iload_n 1, 1) from by decide +kernel) rfl
theorem m5_1u : M5 1 [l0, l1, l2, l3, .unset, l5] ((.int v) :: st) H Q = M5 3 [l0, l1, l2, l3, .val (.int v), l5] st H Q := w_st (i := 4) (p := isI) (show decode kb5 1 = .ok (.istore 4, 2) from by decide +kernel) rfl rfl rfl rfl rfl rfl
theorem m5_3 : M5 3 ls st H Q = M5 4 ls (.int 0 :: st) H Q := w_con (show decode kb5 3 = .ok (.iconst 0, 1) from by decide +kernel) rfl (by decide)
theorem m5_4u : M5 4 [l0, l1, l2, l3, l4, .unset] ((.int v) :: st) H Q = M5 6 [l0, l1, l2, l3, l4, .val (.int v)] st H Q := w_st (i := 5) (p := isI) (show decode kb5 4 = .ok (.istore 5, 2) from by decide +kernel) rfl rfl rfl rfl rfl rfl
theorem m5_6 : M5 6 [l0, l1, l2, l3, l4, .val (.int v)] st H Q = M5 8 [l0, l1, l2, l3, l4, .val (.int v)] (.int v :: st) H Q := w_x (show decode kb5 6 = .ok (.iload 5, 2) from by decide +kernel) rfl
theorem m5_8 : M5 8 ls st H Q = M5 11 ls (.int 128 :: st) H Q := w_con (show decode kb5 8 = .ok (.sipush 128, 3) from by decide +kernel) rfl (by decide)
theorem m5_11 : M5 11 ls (.int y :: .int x :: st) H Q = if x < y then M5 14 ls st H Q else M5 62 ls st H Q := w_icmpN (show decode kb5 11 = .ok (.if_icmp .ge 51, 3) from by decide +kernel) (i_ge x y) rfl
theorem m5_14 : M5 14 [l0, l1, l2, l3, .val (.int v), l5] st H Q = M5 16 [l0, l1, l2, l3, .val (.int v), l5] (.int v :: st) H Q := w_x (show decode kb5 14 = .ok (.iload 4, 2) from by decide +kernel) rfl
theorem m5_16 : M5 16 ls (.int x :: st) H Q = if x < 0 then M5 62 ls st H Q else M5 19 ls st H Q := w_if (show decode kb5 16 = .ok (.ifCond .lt 46, 3) from by decide +kernel) (z_lt x) rfl
theorem m5_19 : M5 19 [.val (.ref r), l1, l2, l3, l4, l5] st H Q = M5 20 [.val (.ref r), l1, l2, l3, l4, l5] (.ref r :: st) H Q := w_x (show decode kb5 19 = .ok (.aload_n 0, 1) from by decide +kernel) rfl
theorem m5_20 : M5 20 ls (.ref b :: st) (put b pre s A post) Q = M5 23 ls (.ref (b + 4) :: st) (put b pre s A post) Q := w_get (show decode kb5 20 = .ok (.getfield 19, 3) from by decide +kernel) gf_19 put_o rfl
theorem m5_23 : M5 23 [l0, l1, l2, l3, .val (.int v), l5] st H Q = M5 25 [l0, l1, l2, l3, .val (.int v), l5] (.int v :: st) H Q := w_x (show decode kb5 23 = .ok (.iload 4, 2) from by decide +kernel) rfl
theorem m5_25 : M5 25 ls st H Q = M5 27 ls (.int 8 :: st) H Q := w_con (show decode kb5 25 = .ok (.bipush 8, 2) from by decide +kernel) rfl (by decide)
theorem m5_27 : M5 27 ls (.int y :: .int x :: st) H Q = M5 28 ls (.int (x * y) :: st) H Q := w_x (show decode kb5 27 = .ok (.imul, 1) from by decide +kernel) rfl
theorem m5_28 : M5 28 [l0, l1, .val (.int v), l3, l4, l5] st H Q = M5 29 [l0, l1, .val (.int v), l3, l4, l5] (.int v :: st) H Q := w_x (show decode kb5 28 = .ok (.iload_n 2, 1) from by decide +kernel) rfl
theorem m5_29 : M5 29 ls (.int y :: .int x :: st) H Q = M5 30 ls (.int (x + y) :: st) H Q := w_x (show decode kb5 29 = .ok (.iadd, 1) from by decide +kernel) rfl
theorem m5_30  : M5 30 ls (.int j :: .ref (b + 4) :: st) (put b pre s A post) Q = (inB j (A 3) ∧ M5 31 ls (.int (getA (A 3) j) :: st) (put b pre s A post) Q) := w_ild (show decode kb5 30 = .ok (.iaload, 1) from by decide +kernel) rfl put_a3
theorem m5_31 : M5 31 ls (.int x :: st) H Q = if x < 0 then M5 34 ls st H Q else M5 62 ls st H Q := w_ifN (show decode kb5 31 = .ok (.ifCond .ge 31, 3) from by decide +kernel) (z_ge x) rfl
theorem m5_34 : M5 34 [.val (.ref r), l1, l2, l3, l4, l5] st H Q = M5 35 [.val (.ref r), l1, l2, l3, l4, l5] (.ref r :: st) H Q := w_x (show decode kb5 34 = .ok (.aload_n 0, 1) from by decide +kernel) rfl
theorem m5_35 : M5 35 ls (.ref b :: st) (put b pre s A post) Q = M5 38 ls (.ref (b + 4) :: st) (put b pre s A post) Q := w_get (show decode kb5 35 = .ok (.getfield 19, 3) from by decide +kernel) gf_19 put_o rfl
theorem m5_38 : M5 38 [l0, l1, l2, l3, .val (.int v), l5] st H Q = M5 40 [l0, l1, l2, l3, .val (.int v), l5] (.int v :: st) H Q := w_x (show decode kb5 38 = .ok (.iload 4, 2) from by decide +kernel) rfl
theorem m5_40 : M5 40 ls st H Q = M5 42 ls (.int 8 :: st) H Q := w_con (show decode kb5 40 = .ok (.bipush 8, 2) from by decide +kernel) rfl (by decide)
theorem m5_42 : M5 42 ls (.int y :: .int x :: st) H Q = M5 43 ls (.int (x * y) :: st) H Q := w_x (show decode kb5 42 = .ok (.imul, 1) from by decide +kernel) rfl
theorem m5_43 : M5 43 [l0, l1, .val (.int v), l3, l4, l5] st H Q = M5 44 [l0, l1, .val (.int v), l3, l4, l5] (.int v :: st) H Q := w_x (show decode kb5 43 = .ok (.iload_n 2, 1) from by decide +kernel) rfl
theorem m5_44 : M5 44 ls (.int y :: .int x :: st) H Q = M5 45 ls (.int (x + y) :: st) H Q := w_x (show decode kb5 44 = .ok (.iadd, 1) from by decide +kernel) rfl
theorem m5_45 : M5 45 [l0, l1, l2, .val (.int v), l4, l5] st H Q = M5 46 [l0, l1, l2, .val (.int v), l4, l5] (.int v :: st) H Q := w_x (show decode kb5 45 = .ok (.iload_n 3, 1) from by decide +kernel) rfl
theorem m5_46  : M5 46 ls (.int v :: .int j :: .ref (b + 4) :: st) (put b pre s A post) Q = (inB j (A 3) ∧ M5 47 ls st (put b pre s (ou A 3 (setA (A 3) j v)) post) Q) := w_ist (show decode kb5 46 = .ok (.iastore, 1) from by decide +kernel) rfl put_a3 (Nat.zero_le _) rfl put_w3
theorem m5_47 : M5 47 [.val (.ref r), l1, l2, l3, l4, l5] st H Q = M5 48 [.val (.ref r), l1, l2, l3, l4, l5] (.ref r :: st) H Q := w_x (show decode kb5 47 = .ok (.aload_n 0, 1) from by decide +kernel) rfl
theorem m5_48 : M5 48 ls (.ref b :: st) (put b pre s A post) Q = M5 51 ls (.ref (b + 5) :: st) (put b pre s A post) Q := w_get (show decode kb5 48 = .ok (.getfield 22, 3) from by decide +kernel) gf_22 put_o rfl
theorem m5_51 : M5 51 [l0, l1, l2, l3, .val (.int v), l5] st H Q = M5 53 [l0, l1, l2, l3, .val (.int v), l5] (.int v :: st) H Q := w_x (show decode kb5 51 = .ok (.iload 4, 2) from by decide +kernel) rfl
theorem m5_53  : M5 53 ls (.int j :: .ref (b + 5) :: st) (put b pre s A post) Q = (inB j (A 4) ∧ M5 54 ls (.int (getA (A 4) j) :: st) (put b pre s A post) Q) := w_ild (show decode kb5 53 = .ok (.iaload, 1) from by decide +kernel) rfl put_a4
theorem m5_54i : M5 54 [l0, l1, l2, l3, .val (.int z), l5] ((.int v) :: st) H Q = M5 56 [l0, l1, l2, l3, .val (.int v), l5] st H Q := w_st (i := 4) (p := isI) (show decode kb5 54 = .ok (.istore 4, 2) from by decide +kernel) rfl rfl rfl rfl rfl rfl
theorem m5_56 : M5 56 [l0, l1, l2, l3, l4, .val (.int v)] st H Q = M5 59 [l0, l1, l2, l3, l4, .val (.int (v + 1))] st H Q := w_iinc (show decode kb5 56 = .ok (.iinc 5 1, 3) from by decide +kernel) rfl (by decide) rfl
theorem m5_59 : M5 59 ls st H Q = M5 6 ls st H Q := w_x (show decode kb5 59 = .ok (.goto (-53), 3) from by decide +kernel) rfl
theorem m5_62 : M5 62 [l0, l1, l2, l3, .val (.int v), l5] st H Q = M5 64 [l0, l1, l2, l3, .val (.int v), l5] (.int v :: st) H Q := w_x (show decode kb5 62 = .ok (.iload 4, 2) from by decide +kernel) rfl
theorem m5_64 : M5 64 ls (.int z :: st) H Q = Q (some (.int z)) H := w_iret (show decode kb5 64 = .ok (.ireturn, 1) from by decide +kernel) rfl
theorem m6_0 : M6 0 [l0, .val (.int v)] st H Q = M6 1 [l0, .val (.int v)] (.int v :: st) H Q := w_x (show decode kb6 0 = .ok (.iload_n 1, 1) from by decide +kernel) rfl
theorem m6_1 : M6 1 ls (.int x :: st) H Q = if x < 0 then M6 12 ls st H Q else M6 4 ls st H Q := w_if (show decode kb6 1 = .ok (.ifCond .lt 11, 3) from by decide +kernel) (z_lt x) rfl
theorem m6_4 : M6 4 [l0, .val (.int v)] st H Q = M6 5 [l0, .val (.int v)] (.int v :: st) H Q := w_x (show decode kb6 4 = .ok (.iload_n 1, 1) from by decide +kernel) rfl
theorem m6_5 : M6 5 [.val (.ref r), l1] st H Q = M6 6 [.val (.ref r), l1] (.ref r :: st) H Q := w_x (show decode kb6 5 = .ok (.aload_n 0, 1) from by decide +kernel) rfl
theorem m6_6 : M6 6 ls (.ref b :: st) (put b pre s A post) Q = M6 9 ls (.int (s 0) :: st) (put b pre s A post) Q := w_get (show decode kb6 6 = .ok (.getfield 44, 3) from by decide +kernel) gf_44 put_o rfl
theorem m6_9 : M6 9 ls (.int y :: .int x :: st) H Q = if x < y then M6 14 ls st H Q else M6 12 ls st H Q := w_icmp (show decode kb6 9 = .ok (.if_icmp .lt 5, 3) from by decide +kernel) (i_lt x y) rfl
theorem m6_12 : M6 12 ls st H Q = M6 13 ls (.int 0 :: st) H Q := w_con (show decode kb6 12 = .ok (.iconst 0, 1) from by decide +kernel) rfl (by decide)
theorem m6_13 : M6 13 ls (.int z :: st) H Q = Q (some (.int (nar .boolean z))) H := w_iretN (show decode kb6 13 = .ok (.ireturn, 1) from by decide +kernel) rfl (by simp)
theorem m6_14 : M6 14 [.val (.ref r), l1] st H Q = M6 15 [.val (.ref r), l1] (.ref r :: st) H Q := w_x (show decode kb6 14 = .ok (.aload_n 0, 1) from by decide +kernel) rfl
theorem m6_15 : M6 15 ls (.ref b :: st) (put b pre s A post) Q = M6 18 ls (.int (s 3) :: st) (put b pre s A post) Q := w_get (show decode kb6 15 = .ok (.getfield 54, 3) from by decide +kernel) gf_54 put_o rfl
theorem m6_18 : M6 18 ls st H Q = M6 20 ls (.int 64 :: st) H Q := w_con (show decode kb6 18 = .ok (.bipush 64, 2) from by decide +kernel) rfl (by decide)
theorem m6_20 : M6 20 ls (.int y :: .int x :: st) H Q = if x < y then M6 25 ls st H Q else M6 23 ls st H Q := w_icmp (show decode kb6 20 = .ok (.if_icmp .lt 5, 3) from by decide +kernel) (i_lt x y) rfl
theorem m6_23 : M6 23 ls st H Q = M6 24 ls (.int 0 :: st) H Q := w_con (show decode kb6 23 = .ok (.iconst 0, 1) from by decide +kernel) rfl (by decide)
theorem m6_24 : M6 24 ls (.int z :: st) H Q = Q (some (.int (nar .boolean z))) H := w_iretN (show decode kb6 24 = .ok (.ireturn, 1) from by decide +kernel) rfl (by simp)
theorem m6_25 : M6 25 [.val (.ref r), l1] st H Q = M6 26 [.val (.ref r), l1] (.ref r :: st) H Q := w_x (show decode kb6 25 = .ok (.aload_n 0, 1) from by decide +kernel) rfl
theorem m6_26 : M6 26 ls (.ref b :: st) (put b pre s A post) Q = M6 29 ls (.ref (b + 2) :: st) (put b pre s A post) Q := w_get (show decode kb6 26 = .ok (.getfield 13, 3) from by decide +kernel) gf_13 put_o rfl
theorem m6_29 : M6 29 [.val (.ref r), l1] st H Q = M6 30 [.val (.ref r), l1] (.ref r :: st) H Q := w_x (show decode kb6 29 = .ok (.aload_n 0, 1) from by decide +kernel) rfl
theorem m6_30 : M6 30 ls (.ref b :: st) (put b pre s A post) Q = M6 33 ls (.int (s 3) :: st) (put b pre s A post) Q := w_get (show decode kb6 30 = .ok (.getfield 54, 3) from by decide +kernel) gf_54 put_o rfl
theorem m6_33 : M6 33 [l0, .val (.int v)] st H Q = M6 34 [l0, .val (.int v)] (.int v :: st) H Q := w_x (show decode kb6 33 = .ok (.iload_n 1, 1) from by decide +kernel) rfl
theorem m6_34  : M6 34 ls (.int v :: .int j :: .ref (b + 2) :: st) (put b pre s A post) Q = (inB j (A 1) ∧ M6 35 ls st (put b pre s (ou A 1 (setA (A 1) j v)) post) Q) := w_ist (show decode kb6 34 = .ok (.iastore, 1) from by decide +kernel) rfl put_a1 (Nat.zero_le _) rfl put_w1
theorem m6_35 : M6 35 [.val (.ref r), l1] st H Q = M6 36 [.val (.ref r), l1] (.ref r :: st) H Q := w_x (show decode kb6 35 = .ok (.aload_n 0, 1) from by decide +kernel) rfl
theorem m6_36 : M6 36 ls ((.ref r) :: st) H Q = M6 37 ls ((.ref r) :: (.ref r) :: st) H Q := w_x (show decode kb6 36 = .ok (.dup, 1) from by decide +kernel) rfl
theorem m6_37 : M6 37 ls (.ref b :: st) (put b pre s A post) Q = M6 40 ls (.int (s 3) :: st) (put b pre s A post) Q := w_get (show decode kb6 37 = .ok (.getfield 54, 3) from by decide +kernel) gf_54 put_o rfl
theorem m6_40 : M6 40 ls st H Q = M6 41 ls (.int 1 :: st) H Q := w_con (show decode kb6 40 = .ok (.iconst 1, 1) from by decide +kernel) rfl (by decide)
theorem m6_41 : M6 41 ls (.int y :: .int x :: st) H Q = M6 42 ls (.int (x + y) :: st) H Q := w_x (show decode kb6 41 = .ok (.iadd, 1) from by decide +kernel) rfl
theorem pf6_54 : pfR tables_1 y6.cls y6.name 54 = some ("SuffixAutomat", 14, .int) := by decide +kernel
theorem m6_42 : M6 42 ls (.int v :: .ref b :: st) (put b pre s A post) Q = M6 45 ls st (put b pre (ou s 3 v) A post) Q := w_put (show decode kb6 42 = .ok (.putfield 54, 3) from by decide +kernel) pf6_54 put_o (Nat.zero_le _) (by show 14 < 20; omega) rfl put_s3
theorem m6_45 : M6 45 ls st H Q = M6 46 ls (.int 1 :: st) H Q := w_con (show decode kb6 45 = .ok (.iconst 1, 1) from by decide +kernel) rfl (by decide)
theorem m6_46 : M6 46 ls (.int z :: st) H Q = Q (some (.int (nar .boolean z))) H := w_iretN (show decode kb6 46 = .ok (.ireturn, 1) from by decide +kernel) rfl (by simp)
theorem m7_0 : M7 0 [.val (.ref r)] st H Q = M7 1 [.val (.ref r)] (.ref r :: st) H Q := w_x (show decode kb7 0 = .ok (.aload_n 0, 1) from by decide +kernel) rfl
theorem m7_1 : M7 1 ls (.ref b :: st) (put b pre s A post) Q = M7 4 ls (.int (s 2) :: st) (put b pre s A post) Q := w_get (show decode kb7 1 = .ok (.getfield 51, 3) from by decide +kernel) gf_51 put_o rfl
theorem m7_4 : M7 4 ls (.int z :: st) H Q = Q (some (.int z)) H := w_iret (show decode kb7 4 = .ok (.ireturn, 1) from by decide +kernel) rfl
theorem m8_0 : M8 0 [.val (.ref r)] st H Q = M8 1 [.val (.ref r)] (.ref r :: st) H Q := w_x (show decode kb8 0 = .ok (.aload_n 0, 1) from by decide +kernel) rfl
theorem m8_1 : M8 1 ls (.ref b :: st) (put b pre s A post) Q = M8 4 ls (.int (s 3) :: st) (put b pre s A post) Q := w_get (show decode kb8 1 = .ok (.getfield 54, 3) from by decide +kernel) gf_54 put_o rfl
theorem m8_4 : M8 4 ls (.int z :: st) H Q = Q (some (.int z)) H := w_iret (show decode kb8 4 = .ok (.ireturn, 1) from by decide +kernel) rfl
theorem m9_0 : M9 0 [.val (.ref r)] st H Q = M9 1 [.val (.ref r)] (.ref r :: st) H Q := w_x (show decode kb9 0 = .ok (.aload_n 0, 1) from by decide +kernel) rfl
theorem m9_1 : M9 1 ls (.ref b :: st) (put b pre s A post) Q = M9 4 ls (.int (s 3) :: st) (put b pre s A post) Q := w_get (show decode kb9 1 = .ok (.getfield 54, 3) from by decide +kernel) gf_54 put_o rfl
theorem m9_4 : M9 4 ls (.int x :: st) H Q = if x = 0 then M9 7 ls st H Q else M9 9 ls st H Q := w_ifN (show decode kb9 4 = .ok (.ifCond .ne 5, 3) from by decide +kernel) (z_ne x) rfl
theorem m9_7 : M9 7 ls st H Q = M9 8 ls (.int 1 :: st) H Q := w_con (show decode kb9 7 = .ok (.iconst 1, 1) from by decide +kernel) rfl (by decide)
theorem m9_8 : M9 8 ls (.int z :: st) H Q = Q (some (.int (nar .boolean z))) H := w_iretN (show decode kb9 8 = .ok (.ireturn, 1) from by decide +kernel) rfl (by simp)
theorem m9_9 : M9 9 [.val (.ref r)] st H Q = M9 10 [.val (.ref r)] (.ref r :: st) H Q := w_x (show decode kb9 9 = .ok (.aload_n 0, 1) from by decide +kernel) rfl
theorem m9_10 : M9 10 ls (.ref b :: st) (put b pre s A post) Q = M9 13 ls (.int (s 3) :: st) (put b pre s A post) Q := w_get (show decode kb9 10 = .ok (.getfield 54, 3) from by decide +kernel) gf_54 put_o rfl
theorem m9_13 : M9 13 [.val (.ref r)] st H Q = M9 14 [.val (.ref r)] (.ref r :: st) H Q := w_x (show decode kb9 13 = .ok (.aload_n 0, 1) from by decide +kernel) rfl
theorem m9_14 : M9 14 ls (.ref b :: st) (put b pre s A post) Q = M9 17 ls (.int (s 2) :: st) (put b pre s A post) Q := w_get (show decode kb9 14 = .ok (.getfield 51, 3) from by decide +kernel) gf_51 put_o rfl
theorem m9_17 : M9 17 ls (.int y :: .int x :: st) H Q = if y < x then M9 20 ls st H Q else M9 22 ls st H Q := w_icmpN (show decode kb9 17 = .ok (.if_icmp .le 5, 3) from by decide +kernel) (i_le x y) rfl
theorem m9_20 : M9 20 ls st H Q = M9 21 ls (.int 0 :: st) H Q := w_con (show decode kb9 20 = .ok (.iconst 0, 1) from by decide +kernel) rfl (by decide)
theorem m9_21 : M9 21 ls (.int z :: st) H Q = Q (some (.int (nar .boolean z))) H := w_iretN (show decode kb9 21 = .ok (.ireturn, 1) from by decide +kernel) rfl (by simp)
theorem m9_22 : M9 22 [.val (.ref r)] st H Q = M9 23 [.val (.ref r)] (.ref r :: st) H Q := w_x (show decode kb9 22 = .ok (.aload_n 0, 1) from by decide +kernel) rfl
theorem cr9_67 : vR tables_1 dn y9 67 = some (true, y10, prog_1_method_23_code, 5, (some .int), 0, 0) := pR_of (cR_of (by decide +kernel) rc_10 dn_10 dn_9 (sig := ⟨[], some .int⟩) (by decide +kernel) (by decide +kernel) rfl rfl) (by decide +kernel) (by decide +kernel)
theorem m9_23 : M9 23 ls [.ref b] (put b pre s A post) Q = M10 0 [.val (.ref b), .unset, .unset, .unset, .unset] [] (put b pre s A post) (fun v H1 => M9 26 ls (v.toList ++ []) H1 Q) := w_virt (as := []) (rest := []) (a := b) (show decode kb9 23 = .ok (.invokevirtual 67, 3) from by decide +kernel) cr9_67 put_o rfl rfl (Nat.le_of_ble_eq_true rfl) (by show 1 ≤ 5; omega) rfl
theorem m9_26 : M9 26 ls st H Q = M9 27 ls (.int (-1) :: st) H Q := w_con (show decode kb9 26 = .ok (.iconst (-1), 1) from by decide +kernel) rfl (by decide)
theorem m9_27 : M9 27 ls (.int y :: .int x :: st) H Q = if x = y then M9 34 ls st H Q else M9 30 ls st H Q := w_icmp (show decode kb9 27 = .ok (.if_icmp .eq 7, 3) from by decide +kernel) (i_eq x y) rfl
theorem m9_30 : M9 30 ls st H Q = M9 31 ls (.int 1 :: st) H Q := w_con (show decode kb9 30 = .ok (.iconst 1, 1) from by decide +kernel) rfl (by decide)
theorem m9_31 : M9 31 ls st H Q = M9 35 ls st H Q := w_x (show decode kb9 31 = .ok (.goto 4, 3) from by decide +kernel) rfl
theorem m9_34 : M9 34 ls st H Q = M9 35 ls (.int 0 :: st) H Q := w_con (show decode kb9 34 = .ok (.iconst 0, 1) from by decide +kernel) rfl (by decide)
theorem m9_35 : M9 35 ls (.int z :: st) H Q = Q (some (.int (nar .boolean z))) H := w_iretN (show decode kb9 35 = .ok (.ireturn, 1) from by decide +kernel) rfl (by simp)
theorem m10_0 : M10 0 ls st H Q = M10 1 ls (.int 0 :: st) H Q := w_con (show decode kb10 0 = .ok (.iconst 0, 1) from by decide +kernel) rfl (by decide)
theorem m10_1u : M10 1 [l0, .unset, l2, l3, l4] ((.int v) :: st) H Q = M10 2 [l0, .val (.int v), l2, l3, l4] st H Q := w_st (i := 1) (p := isI) (show decode kb10 1 = .ok (.istore_n 1, 1) from by decide +kernel) rfl rfl rfl rfl rfl rfl
theorem m10_2 : M10 2 ls st H Q = M10 3 ls (.int 0 :: st) H Q := w_con (show decode kb10 2 = .ok (.iconst 0, 1) from by decide +kernel) rfl (by decide)
theorem m10_3u : M10 3 [l0, l1, .unset, l3, l4] ((.int v) :: st) H Q = M10 4 [l0, l1, .val (.int v), l3, l4] st H Q := w_st (i := 2) (p := isI) (show decode kb10 3 = .ok (.istore_n 2, 1) from by decide +kernel) rfl rfl rfl rfl rfl rfl
theorem m10_4 : M10 4 [l0, l1, .val (.int v), l3, l4] st H Q = M10 5 [l0, l1, .val (.int v), l3, l4] (.int v :: st) H Q := w_x (show decode kb10 4 = .ok (.iload_n 2, 1) from by decide +kernel) rfl
theorem m10_5 : M10 5 [.val (.ref r), l1, l2, l3, l4] st H Q = M10 6 [.val (.ref r), l1, l2, l3, l4] (.ref r :: st) H Q := w_x (show decode kb10 5 = .ok (.aload_n 0, 1) from by decide +kernel) rfl
theorem m10_6 : M10 6 ls (.ref b :: st) (put b pre s A post) Q = M10 9 ls (.int (s 3) :: st) (put b pre s A post) Q := w_get (show decode kb10 6 = .ok (.getfield 54, 3) from by decide +kernel) gf_54 put_o rfl
theorem m10_9 : M10 9 ls (.int y :: .int x :: st) H Q = if x < y then M10 12 ls st H Q else M10 66 ls st H Q := w_icmpN (show decode kb10 9 = .ok (.if_icmp .ge 57, 3) from by decide +kernel) (i_ge x y) rfl
theorem m10_12 : M10 12 [l0, l1, .val (.int v), l3, l4] st H Q = M10 13 [l0, l1, .val (.int v), l3, l4] (.int v :: st) H Q := w_x (show decode kb10 12 = .ok (.iload_n 2, 1) from by decide +kernel) rfl
theorem m10_13 : M10 13 ls st H Q = M10 15 ls (.int 64 :: st) H Q := w_con (show decode kb10 13 = .ok (.bipush 64, 2) from by decide +kernel) rfl (by decide)
theorem m10_15 : M10 15 ls (.int y :: .int x :: st) H Q = if x < y then M10 18 ls st H Q else M10 66 ls st H Q := w_icmpN (show decode kb10 15 = .ok (.if_icmp .ge 51, 3) from by decide +kernel) (i_ge x y) rfl
theorem m10_18 : M10 18 [.val (.ref r), l1, l2, l3, l4] st H Q = M10 19 [.val (.ref r), l1, l2, l3, l4] (.ref r :: st) H Q := w_x (show decode kb10 18 = .ok (.aload_n 0, 1) from by decide +kernel) rfl
theorem m10_19 : M10 19 ls (.ref b :: st) (put b pre s A post) Q = M10 22 ls (.ref (b + 2) :: st) (put b pre s A post) Q := w_get (show decode kb10 19 = .ok (.getfield 13, 3) from by decide +kernel) gf_13 put_o rfl
theorem m10_22 : M10 22 [l0, l1, .val (.int v), l3, l4] st H Q = M10 23 [l0, l1, .val (.int v), l3, l4] (.int v :: st) H Q := w_x (show decode kb10 22 = .ok (.iload_n 2, 1) from by decide +kernel) rfl
theorem m10_23  : M10 23 ls (.int j :: .ref (b + 2) :: st) (put b pre s A post) Q = (inB j (A 1) ∧ M10 24 ls (.int (getA (A 1) j) :: st) (put b pre s A post) Q) := w_ild (show decode kb10 23 = .ok (.iaload, 1) from by decide +kernel) rfl put_a1
theorem m10_24u : M10 24 [l0, l1, l2, .unset, l4] ((.int v) :: st) H Q = M10 25 [l0, l1, l2, .val (.int v), l4] st H Q := w_st (i := 3) (p := isI) (show decode kb10 24 = .ok (.istore_n 3, 1) from by decide +kernel) rfl rfl rfl rfl rfl rfl
theorem m10_24i : M10 24 [l0, l1, l2, .val (.int z), l4] ((.int v) :: st) H Q = M10 25 [l0, l1, l2, .val (.int v), l4] st H Q := w_st (i := 3) (p := isI) (show decode kb10 24 = .ok (.istore_n 3, 1) from by decide +kernel) rfl rfl rfl rfl rfl rfl
theorem m10_24r : M10 24 [l0, l1, l2, .val (.ref q), l4] ((.int v) :: st) H Q = M10 25 [l0, l1, l2, .val (.int v), l4] st H Q := w_st (i := 3) (p := isI) (show decode kb10 24 = .ok (.istore_n 3, 1) from by decide +kernel) rfl rfl rfl rfl rfl rfl
theorem m10_25 : M10 25 [l0, l1, l2, .val (.int v), l4] st H Q = M10 26 [l0, l1, l2, .val (.int v), l4] (.int v :: st) H Q := w_x (show decode kb10 25 = .ok (.iload_n 3, 1) from by decide +kernel) rfl
theorem m10_26 : M10 26 ls (.int x :: st) H Q = if x < 0 then M10 35 ls st H Q else M10 29 ls st H Q := w_if (show decode kb10 26 = .ok (.ifCond .lt 9, 3) from by decide +kernel) (z_lt x) rfl
theorem m10_29 : M10 29 [l0, l1, l2, .val (.int v), l4] st H Q = M10 30 [l0, l1, l2, .val (.int v), l4] (.int v :: st) H Q := w_x (show decode kb10 29 = .ok (.iload_n 3, 1) from by decide +kernel) rfl
theorem m10_30 : M10 30 ls st H Q = M10 32 ls (.int 8 :: st) H Q := w_con (show decode kb10 30 = .ok (.bipush 8, 2) from by decide +kernel) rfl (by decide)
theorem m10_32 : M10 32 ls (.int y :: .int x :: st) H Q = if x < y then M10 37 ls st H Q else M10 35 ls st H Q := w_icmp (show decode kb10 32 = .ok (.if_icmp .lt 5, 3) from by decide +kernel) (i_lt x y) rfl
theorem m10_35 : M10 35 ls st H Q = M10 36 ls (.int (-1) :: st) H Q := w_con (show decode kb10 35 = .ok (.iconst (-1), 1) from by decide +kernel) rfl (by decide)
theorem m10_36 : M10 36 ls (.int z :: st) H Q = Q (some (.int z)) H := w_iret (show decode kb10 36 = .ok (.ireturn, 1) from by decide +kernel) rfl
theorem m10_37 : M10 37 [.val (.ref r), l1, l2, l3, l4] st H Q = M10 38 [.val (.ref r), l1, l2, l3, l4] (.ref r :: st) H Q := w_x (show decode kb10 37 = .ok (.aload_n 0, 1) from by decide +kernel) rfl
theorem m10_38 : M10 38 ls (.ref b :: st) (put b pre s A post) Q = M10 41 ls (.ref (b + 4) :: st) (put b pre s A post) Q := w_get (show decode kb10 38 = .ok (.getfield 19, 3) from by decide +kernel) gf_19 put_o rfl
theorem m10_41 : M10 41 [l0, .val (.int v), l2, l3, l4] st H Q = M10 42 [l0, .val (.int v), l2, l3, l4] (.int v :: st) H Q := w_x (show decode kb10 41 = .ok (.iload_n 1, 1) from by decide +kernel) rfl
theorem m10_42 : M10 42 ls st H Q = M10 44 ls (.int 8 :: st) H Q := w_con (show decode kb10 42 = .ok (.bipush 8, 2) from by decide +kernel) rfl (by decide)
theorem m10_44 : M10 44 ls (.int y :: .int x :: st) H Q = M10 45 ls (.int (x * y) :: st) H Q := w_x (show decode kb10 44 = .ok (.imul, 1) from by decide +kernel) rfl
theorem m10_45 : M10 45 [l0, l1, l2, .val (.int v), l4] st H Q = M10 46 [l0, l1, l2, .val (.int v), l4] (.int v :: st) H Q := w_x (show decode kb10 45 = .ok (.iload_n 3, 1) from by decide +kernel) rfl
theorem m10_46 : M10 46 ls (.int y :: .int x :: st) H Q = M10 47 ls (.int (x + y) :: st) H Q := w_x (show decode kb10 46 = .ok (.iadd, 1) from by decide +kernel) rfl
theorem m10_47  : M10 47 ls (.int j :: .ref (b + 4) :: st) (put b pre s A post) Q = (inB j (A 3) ∧ M10 48 ls (.int (getA (A 3) j) :: st) (put b pre s A post) Q) := w_ild (show decode kb10 47 = .ok (.iaload, 1) from by decide +kernel) rfl put_a3
theorem m10_48u : M10 48 [l0, l1, l2, l3, .unset] ((.int v) :: st) H Q = M10 50 [l0, l1, l2, l3, .val (.int v)] st H Q := w_st (i := 4) (p := isI) (show decode kb10 48 = .ok (.istore 4, 2) from by decide +kernel) rfl rfl rfl rfl rfl rfl
theorem m10_48i : M10 48 [l0, l1, l2, l3, .val (.int z)] ((.int v) :: st) H Q = M10 50 [l0, l1, l2, l3, .val (.int v)] st H Q := w_st (i := 4) (p := isI) (show decode kb10 48 = .ok (.istore 4, 2) from by decide +kernel) rfl rfl rfl rfl rfl rfl
theorem m10_48r : M10 48 [l0, l1, l2, l3, .val (.ref q)] ((.int v) :: st) H Q = M10 50 [l0, l1, l2, l3, .val (.int v)] st H Q := w_st (i := 4) (p := isI) (show decode kb10 48 = .ok (.istore 4, 2) from by decide +kernel) rfl rfl rfl rfl rfl rfl
theorem m10_50 : M10 50 [l0, l1, l2, l3, .val (.int v)] st H Q = M10 52 [l0, l1, l2, l3, .val (.int v)] (.int v :: st) H Q := w_x (show decode kb10 50 = .ok (.iload 4, 2) from by decide +kernel) rfl
theorem m10_52 : M10 52 ls (.int x :: st) H Q = if x < 0 then M10 55 ls st H Q else M10 57 ls st H Q := w_ifN (show decode kb10 52 = .ok (.ifCond .ge 5, 3) from by decide +kernel) (z_ge x) rfl
theorem m10_55 : M10 55 ls st H Q = M10 56 ls (.int (-1) :: st) H Q := w_con (show decode kb10 55 = .ok (.iconst (-1), 1) from by decide +kernel) rfl (by decide)
theorem m10_56 : M10 56 ls (.int z :: st) H Q = Q (some (.int z)) H := w_iret (show decode kb10 56 = .ok (.ireturn, 1) from by decide +kernel) rfl
theorem m10_57 : M10 57 [l0, l1, l2, l3, .val (.int v)] st H Q = M10 59 [l0, l1, l2, l3, .val (.int v)] (.int v :: st) H Q := w_x (show decode kb10 57 = .ok (.iload 4, 2) from by decide +kernel) rfl
theorem m10_59i : M10 59 [l0, .val (.int z), l2, l3, l4] ((.int v) :: st) H Q = M10 60 [l0, .val (.int v), l2, l3, l4] st H Q := w_st (i := 1) (p := isI) (show decode kb10 59 = .ok (.istore_n 1, 1) from by decide +kernel) rfl rfl rfl rfl rfl rfl
theorem m10_60 : M10 60 [l0, l1, .val (.int v), l3, l4] st H Q = M10 63 [l0, l1, .val (.int (v + 1)), l3, l4] st H Q := w_iinc (show decode kb10 60 = .ok (.iinc 2 1, 3) from by decide +kernel) rfl (by decide) rfl
theorem m10_63 : M10 63 ls st H Q = M10 4 ls st H Q := w_x (show decode kb10 63 = .ok (.goto (-59), 3) from by decide +kernel) rfl
theorem m10_66 : M10 66 [l0, .val (.int v), l2, l3, l4] st H Q = M10 67 [l0, .val (.int v), l2, l3, l4] (.int v :: st) H Q := w_x (show decode kb10 66 = .ok (.iload_n 1, 1) from by decide +kernel) rfl
theorem m10_67 : M10 67 ls (.int z :: st) H Q = Q (some (.int z)) H := w_iret (show decode kb10 67 = .ok (.ireturn, 1) from by decide +kernel) rfl
theorem m11_0 : M11 0 [.val (.ref r), l1] st H Q = M11 1 [.val (.ref r), l1] (.ref r :: st) H Q := w_x (show decode kb11 0 = .ok (.aload_n 0, 1) from by decide +kernel) rfl
theorem m11_1 : M11 1 ls (.ref b :: st) (put b pre s A post) Q = M11 4 ls (.int (s 3) :: st) (put b pre s A post) Q := w_get (show decode kb11 1 = .ok (.getfield 54, 3) from by decide +kernel) gf_54 put_o rfl
theorem m11_4 : M11 4 ls (.int x :: st) H Q = if x = 0 then M11 7 ls st H Q else M11 14 ls st H Q := w_ifN (show decode kb11 4 = .ok (.ifCond .ne 10, 3) from by decide +kernel) (z_ne x) rfl
theorem m11_7 : M11 7 [.val (.ref r), l1] st H Q = M11 8 [.val (.ref r), l1] (.ref r :: st) H Q := w_x (show decode kb11 7 = .ok (.aload_n 0, 1) from by decide +kernel) rfl
theorem m11_8 : M11 8 ls (.ref b :: st) (put b pre s A post) Q = M11 11 ls (.int (s 2) :: st) (put b pre s A post) Q := w_get (show decode kb11 8 = .ok (.getfield 51, 3) from by decide +kernel) gf_51 put_o rfl
theorem m11_11 : M11 11 ls st H Q = M11 12 ls (.int 1 :: st) H Q := w_con (show decode kb11 11 = .ok (.iconst 1, 1) from by decide +kernel) rfl (by decide)
theorem m11_12 : M11 12 ls (.int y :: .int x :: st) H Q = M11 13 ls (.int (x + y) :: st) H Q := w_x (show decode kb11 12 = .ok (.iadd, 1) from by decide +kernel) rfl
theorem m11_13 : M11 13 ls (.int z :: st) H Q = Q (some (.int z)) H := w_iret (show decode kb11 13 = .ok (.ireturn, 1) from by decide +kernel) rfl
theorem m11_14 : M11 14 [.val (.ref r), l1] st H Q = M11 15 [.val (.ref r), l1] (.ref r :: st) H Q := w_x (show decode kb11 14 = .ok (.aload_n 0, 1) from by decide +kernel) rfl
theorem m11_15 : M11 15 ls (.ref b :: st) (put b pre s A post) Q = M11 18 ls (.int (s 3) :: st) (put b pre s A post) Q := w_get (show decode kb11 15 = .ok (.getfield 54, 3) from by decide +kernel) gf_54 put_o rfl
theorem m11_18 : M11 18 [.val (.ref r), l1] st H Q = M11 19 [.val (.ref r), l1] (.ref r :: st) H Q := w_x (show decode kb11 18 = .ok (.aload_n 0, 1) from by decide +kernel) rfl
theorem m11_19 : M11 19 ls (.ref b :: st) (put b pre s A post) Q = M11 22 ls (.int (s 2) :: st) (put b pre s A post) Q := w_get (show decode kb11 19 = .ok (.getfield 51, 3) from by decide +kernel) gf_51 put_o rfl
theorem m11_22 : M11 22 ls (.int y :: .int x :: st) H Q = if y < x then M11 25 ls st H Q else M11 27 ls st H Q := w_icmpN (show decode kb11 22 = .ok (.if_icmp .le 5, 3) from by decide +kernel) (i_le x y) rfl
theorem m11_25 : M11 25 ls st H Q = M11 26 ls (.int 0 :: st) H Q := w_con (show decode kb11 25 = .ok (.iconst 0, 1) from by decide +kernel) rfl (by decide)
theorem m11_26 : M11 26 ls (.int z :: st) H Q = Q (some (.int z)) H := w_iret (show decode kb11 26 = .ok (.ireturn, 1) from by decide +kernel) rfl
theorem m11_27 : M11 27 [.val (.ref r), l1] st H Q = M11 28 [.val (.ref r), l1] (.ref r :: st) H Q := w_x (show decode kb11 27 = .ok (.aload_n 0, 1) from by decide +kernel) rfl
theorem cr11_67 : vR tables_1 dn y11 67 = some (true, y10, prog_1_method_23_code, 5, (some .int), 0, 14) := pR_of (cR_of (by decide +kernel) rc_10 dn_10 dn_11 (sig := ⟨[], some .int⟩) (by decide +kernel) (by decide +kernel) rfl rfl) (by decide +kernel) (by decide +kernel)
theorem m11_28 : M11 28 ls [.ref b] (put b pre s A post) Q = M10 0 [.val (.ref b), .unset, .unset, .unset, .unset] [] (put b pre s A post) (fun v H1 => M11 31 ls (v.toList ++ []) H1 Q) := w_virt (as := []) (rest := []) (a := b) (show decode kb11 28 = .ok (.invokevirtual 67, 3) from by decide +kernel) cr11_67 put_o rfl rfl (Nat.le_of_ble_eq_true rfl) (by show 1 ≤ 5; omega) rfl
theorem m11_31u : M11 31 [l0, .unset] ((.int v) :: st) H Q = M11 32 [l0, .val (.int v)] st H Q := w_st (i := 1) (p := isI) (show decode kb11 31 = .ok (.istore_n 1, 1) from by decide +kernel) rfl rfl rfl rfl rfl rfl
theorem m11_32 : M11 32 [l0, .val (.int v)] st H Q = M11 33 [l0, .val (.int v)] (.int v :: st) H Q := w_x (show decode kb11 32 = .ok (.iload_n 1, 1) from by decide +kernel) rfl
theorem m11_33 : M11 33 ls st H Q = M11 34 ls (.int (-1) :: st) H Q := w_con (show decode kb11 33 = .ok (.iconst (-1), 1) from by decide +kernel) rfl (by decide)
theorem m11_34 : M11 34 ls (.int y :: .int x :: st) H Q = if x = y then M11 37 ls st H Q else M11 39 ls st H Q := w_icmpN (show decode kb11 34 = .ok (.if_icmp .ne 5, 3) from by decide +kernel) (i_ne x y) rfl
theorem m11_37 : M11 37 ls st H Q = M11 38 ls (.int 0 :: st) H Q := w_con (show decode kb11 37 = .ok (.iconst 0, 1) from by decide +kernel) rfl (by decide)
theorem m11_38 : M11 38 ls (.int z :: st) H Q = Q (some (.int z)) H := w_iret (show decode kb11 38 = .ok (.ireturn, 1) from by decide +kernel) rfl
theorem m11_39 : M11 39 [.val (.ref r), l1] st H Q = M11 40 [.val (.ref r), l1] (.ref r :: st) H Q := w_x (show decode kb11 39 = .ok (.aload_n 0, 1) from by decide +kernel) rfl
theorem cr11_71 : vR tables_1 dn y11 71 = some (true, y12, prog_1_method_24_code, 4, none, 0, 0) := pR_of (cR_of (by decide +kernel) rc_12 dn_12 dn_11 (sig := ⟨[], none⟩) (by decide +kernel) (by decide +kernel) rfl rfl) (by decide +kernel) (by decide +kernel)
theorem m11_40 : M11 40 ls [.ref b] (put b pre s A post) Q = M12 0 [.val (.ref b), .unset, .unset, .unset] [] (put b pre s A post) (fun v H1 => M11 43 ls (v.toList ++ []) H1 Q) := w_virt (as := []) (rest := []) (a := b) (show decode kb11 40 = .ok (.invokevirtual 71, 3) from by decide +kernel) cr11_71 put_o rfl rfl (Nat.le_of_ble_eq_true rfl) (by show 1 ≤ 4; omega) rfl
theorem m11_43 : M11 43 [.val (.ref r), l1] st H Q = M11 44 [.val (.ref r), l1] (.ref r :: st) H Q := w_x (show decode kb11 43 = .ok (.aload_n 0, 1) from by decide +kernel) rfl
theorem m11_44 : M11 44 ls (.ref b :: st) (put b pre s A post) Q = M11 47 ls (.ref (b + 9) :: st) (put b pre s A post) Q := w_get (show decode kb11 44 = .ok (.getfield 35, 3) from by decide +kernel) gf_35 put_o rfl
theorem m11_47 : M11 47 [l0, .val (.int v)] st H Q = M11 48 [l0, .val (.int v)] (.int v :: st) H Q := w_x (show decode kb11 47 = .ok (.iload_n 1, 1) from by decide +kernel) rfl
theorem m11_48  : M11 48 ls (.int j :: .ref (b + 9) :: st) (put b pre s A post) Q = (inB j (A 8) ∧ M11 49 ls (.int (getA (A 8) j) :: st) (put b pre s A post) Q) := w_ild (show decode kb11 48 = .ok (.iaload, 1) from by decide +kernel) rfl put_a8
theorem m11_49 : M11 49 ls (.int z :: st) H Q = Q (some (.int z)) H := w_iret (show decode kb11 49 = .ok (.ireturn, 1) from by decide +kernel) rfl
theorem m12_0 : M12 0 [.val (.ref r), l1, l2, l3] st H Q = M12 1 [.val (.ref r), l1, l2, l3] (.ref r :: st) H Q := w_x (show decode kb12 0 = .ok (.aload_n 0, 1) from by decide +kernel) rfl
theorem m12_1 : M12 1 ls (.ref b :: st) (put b pre s A post) Q = M12 4 ls (.int (s 8) :: st) (put b pre s A post) Q := w_get (show decode kb12 1 = .ok (.getfield 92, 3) from by decide +kernel) gf_92 put_o rfl
theorem m12_4 : M12 4 ls (.int x :: st) H Q = if x = 0 then M12 8 ls st H Q else M12 7 ls st H Q := w_if (show decode kb12 4 = .ok (.ifCond .eq 4, 3) from by decide +kernel) (z_eq x) rfl
theorem m12_7 : M12 7 ls [] H Q = Q none H := w_vret (show decode kb12 7 = .ok (.return_, 1) from by decide +kernel) rfl
theorem m12_8 : M12 8 [.val (.ref r), l1, l2, l3] st H Q = M12 9 [.val (.ref r), l1, l2, l3] (.ref r :: st) H Q := w_x (show decode kb12 8 = .ok (.aload_n 0, 1) from by decide +kernel) rfl
theorem cr12_107 : vR tables_1 dn y12 107 = some (true, y13, prog_1_method_25_code, 4, none, 0, 0) := pR_of (cR_of (by decide +kernel) rc_13 dn_13 dn_12 (sig := ⟨[], none⟩) (by decide +kernel) (by decide +kernel) rfl rfl) (by decide +kernel) (by decide +kernel)
theorem m12_9 : M12 9 ls [.ref b] (put b pre s A post) Q = M13 0 [.val (.ref b), .unset, .unset, .unset] [] (put b pre s A post) (fun v H1 => M12 12 ls (v.toList ++ []) H1 Q) := w_virt (as := []) (rest := []) (a := b) (show decode kb12 9 = .ok (.invokevirtual 107, 3) from by decide +kernel) cr12_107 put_o rfl rfl (Nat.le_of_ble_eq_true rfl) (by show 1 ≤ 4; omega) rfl
theorem m12_12 : M12 12 ls st H Q = M12 13 ls (.int 0 :: st) H Q := w_con (show decode kb12 12 = .ok (.iconst 0, 1) from by decide +kernel) rfl (by decide)
theorem m12_13u : M12 13 [l0, .unset, l2, l3] ((.int v) :: st) H Q = M12 14 [l0, .val (.int v), l2, l3] st H Q := w_st (i := 1) (p := isI) (show decode kb12 13 = .ok (.istore_n 1, 1) from by decide +kernel) rfl rfl rfl rfl rfl rfl
theorem m12_14 : M12 14 [l0, .val (.int v), l2, l3] st H Q = M12 15 [l0, .val (.int v), l2, l3] (.int v :: st) H Q := w_x (show decode kb12 14 = .ok (.iload_n 1, 1) from by decide +kernel) rfl
theorem m12_15 : M12 15 [.val (.ref r), l1, l2, l3] st H Q = M12 16 [.val (.ref r), l1, l2, l3] (.ref r :: st) H Q := w_x (show decode kb12 15 = .ok (.aload_n 0, 1) from by decide +kernel) rfl
theorem m12_16 : M12 16 ls (.ref b :: st) (put b pre s A post) Q = M12 19 ls (.int (s 5) :: st) (put b pre s A post) Q := w_get (show decode kb12 16 = .ok (.getfield 77, 3) from by decide +kernel) gf_77 put_o rfl
theorem m12_19 : M12 19 ls (.int y :: .int x :: st) H Q = if x < y then M12 22 ls st H Q else M12 59 ls st H Q := w_icmpN (show decode kb12 19 = .ok (.if_icmp .ge 40, 3) from by decide +kernel) (i_ge x y) rfl
theorem m12_22 : M12 22 [l0, .val (.int v), l2, l3] st H Q = M12 23 [l0, .val (.int v), l2, l3] (.int v :: st) H Q := w_x (show decode kb12 22 = .ok (.iload_n 1, 1) from by decide +kernel) rfl
theorem m12_23 : M12 23 ls st H Q = M12 26 ls (.int 128 :: st) H Q := w_con (show decode kb12 23 = .ok (.sipush 128, 3) from by decide +kernel) rfl (by decide)
theorem m12_26 : M12 26 ls (.int y :: .int x :: st) H Q = if x < y then M12 29 ls st H Q else M12 59 ls st H Q := w_icmpN (show decode kb12 26 = .ok (.if_icmp .ge 33, 3) from by decide +kernel) (i_ge x y) rfl
theorem m12_29 : M12 29 [.val (.ref r), l1, l2, l3] st H Q = M12 30 [.val (.ref r), l1, l2, l3] (.ref r :: st) H Q := w_x (show decode kb12 29 = .ok (.aload_n 0, 1) from by decide +kernel) rfl
theorem m12_30 : M12 30 ls (.ref b :: st) (put b pre s A post) Q = M12 33 ls (.ref (b + 9) :: st) (put b pre s A post) Q := w_get (show decode kb12 30 = .ok (.getfield 35, 3) from by decide +kernel) gf_35 put_o rfl
theorem m12_33 : M12 33 [l0, .val (.int v), l2, l3] st H Q = M12 34 [l0, .val (.int v), l2, l3] (.int v :: st) H Q := w_x (show decode kb12 33 = .ok (.iload_n 1, 1) from by decide +kernel) rfl
theorem m12_34 : M12 34 [l0, .val (.int v), l2, l3] st H Q = M12 35 [l0, .val (.int v), l2, l3] (.int v :: st) H Q := w_x (show decode kb12 34 = .ok (.iload_n 1, 1) from by decide +kernel) rfl
theorem m12_35 : M12 35 ls (.int x :: st) H Q = if x = 0 then M12 51 ls st H Q else M12 38 ls st H Q := w_if (show decode kb12 35 = .ok (.ifCond .eq 16, 3) from by decide +kernel) (z_eq x) rfl
theorem m12_38 : M12 38 [.val (.ref r), l1, l2, l3] st H Q = M12 39 [.val (.ref r), l1, l2, l3] (.ref r :: st) H Q := w_x (show decode kb12 38 = .ok (.aload_n 0, 1) from by decide +kernel) rfl
theorem m12_39 : M12 39 ls (.ref b :: st) (put b pre s A post) Q = M12 42 ls (.ref (b + 8) :: st) (put b pre s A post) Q := w_get (show decode kb12 39 = .ok (.getfield 31, 3) from by decide +kernel) gf_31 put_o rfl
theorem m12_42 : M12 42 [l0, .val (.int v), l2, l3] st H Q = M12 43 [l0, .val (.int v), l2, l3] (.int v :: st) H Q := w_x (show decode kb12 42 = .ok (.iload_n 1, 1) from by decide +kernel) rfl
theorem m12_43  : M12 43 ls (.int j :: .ref (b + 8) :: st) (put b pre s A post) Q = (inB j (A 7) ∧ M12 44 ls (.int (getA (A 7) j) :: st) (put b pre s A post) Q) := w_ild (show decode kb12 43 = .ok (.baload, 1) from by decide +kernel) rfl put_a7
theorem m12_44 : M12 44 ls (.int x :: st) H Q = if x = 0 then M12 47 ls st H Q else M12 51 ls st H Q := w_ifN (show decode kb12 44 = .ok (.ifCond .ne 7, 3) from by decide +kernel) (z_ne x) rfl
theorem m12_47 : M12 47 ls st H Q = M12 48 ls (.int 1 :: st) H Q := w_con (show decode kb12 47 = .ok (.iconst 1, 1) from by decide +kernel) rfl (by decide)
theorem m12_48 : M12 48 ls st H Q = M12 52 ls st H Q := w_x (show decode kb12 48 = .ok (.goto 4, 3) from by decide +kernel) rfl
theorem m12_51 : M12 51 ls st H Q = M12 52 ls (.int 0 :: st) H Q := w_con (show decode kb12 51 = .ok (.iconst 0, 1) from by decide +kernel) rfl (by decide)
theorem m12_52  : M12 52 ls (.int v :: .int j :: .ref (b + 9) :: st) (put b pre s A post) Q = (inB j (A 8) ∧ M12 53 ls st (put b pre s (ou A 8 (setA (A 8) j v)) post) Q) := w_ist (show decode kb12 52 = .ok (.iastore, 1) from by decide +kernel) rfl put_a8 (Nat.zero_le _) rfl put_w8
theorem m12_53 : M12 53 [l0, .val (.int v), l2, l3] st H Q = M12 56 [l0, .val (.int (v + 1)), l2, l3] st H Q := w_iinc (show decode kb12 53 = .ok (.iinc 1 1, 3) from by decide +kernel) rfl (by decide) rfl
theorem m12_56 : M12 56 ls st H Q = M12 14 ls st H Q := w_x (show decode kb12 56 = .ok (.goto (-42), 3) from by decide +kernel) rfl
theorem m12_59 : M12 59 [.val (.ref r), l1, l2, l3] st H Q = M12 60 [.val (.ref r), l1, l2, l3] (.ref r :: st) H Q := w_x (show decode kb12 59 = .ok (.aload_n 0, 1) from by decide +kernel) rfl
theorem m12_60 : M12 60 ls (.ref b :: st) (put b pre s A post) Q = M12 63 ls (.int (s 5) :: st) (put b pre s A post) Q := w_get (show decode kb12 60 = .ok (.getfield 77, 3) from by decide +kernel) gf_77 put_o rfl
theorem m12_63 : M12 63 ls st H Q = M12 64 ls (.int 1 :: st) H Q := w_con (show decode kb12 63 = .ok (.iconst 1, 1) from by decide +kernel) rfl (by decide)
theorem m12_64 : M12 64 ls (.int y :: .int x :: st) H Q = M12 65 ls (.int (x - y) :: st) H Q := w_x (show decode kb12 64 = .ok (.isub, 1) from by decide +kernel) rfl
theorem m12_65i : M12 65 [l0, .val (.int z), l2, l3] ((.int v) :: st) H Q = M12 66 [l0, .val (.int v), l2, l3] st H Q := w_st (i := 1) (p := isI) (show decode kb12 65 = .ok (.istore_n 1, 1) from by decide +kernel) rfl rfl rfl rfl rfl rfl
theorem m12_66 : M12 66 [l0, .val (.int v), l2, l3] st H Q = M12 67 [l0, .val (.int v), l2, l3] (.int v :: st) H Q := w_x (show decode kb12 66 = .ok (.iload_n 1, 1) from by decide +kernel) rfl
theorem m12_67 : M12 67 ls st H Q = M12 68 ls (.int 1 :: st) H Q := w_con (show decode kb12 67 = .ok (.iconst 1, 1) from by decide +kernel) rfl (by decide)
theorem m12_68 : M12 68 ls (.int y :: .int x :: st) H Q = if x < y then M12 110 ls st H Q else M12 71 ls st H Q := w_icmp (show decode kb12 68 = .ok (.if_icmp .lt 42, 3) from by decide +kernel) (i_lt x y) rfl
theorem m12_71 : M12 71 [.val (.ref r), l1, l2, l3] st H Q = M12 72 [.val (.ref r), l1, l2, l3] (.ref r :: st) H Q := w_x (show decode kb12 71 = .ok (.aload_n 0, 1) from by decide +kernel) rfl
theorem m12_72 : M12 72 ls (.ref b :: st) (put b pre s A post) Q = M12 75 ls (.ref (b + 10) :: st) (put b pre s A post) Q := w_get (show decode kb12 72 = .ok (.getfield 38, 3) from by decide +kernel) gf_38 put_o rfl
theorem m12_75 : M12 75 [l0, .val (.int v), l2, l3] st H Q = M12 76 [l0, .val (.int v), l2, l3] (.int v :: st) H Q := w_x (show decode kb12 75 = .ok (.iload_n 1, 1) from by decide +kernel) rfl
theorem m12_76  : M12 76 ls (.int j :: .ref (b + 10) :: st) (put b pre s A post) Q = (inB j (A 9) ∧ M12 77 ls (.int (getA (A 9) j) :: st) (put b pre s A post) Q) := w_ild (show decode kb12 76 = .ok (.iaload, 1) from by decide +kernel) rfl put_a9
theorem m12_77u : M12 77 [l0, l1, .unset, l3] ((.int v) :: st) H Q = M12 78 [l0, l1, .val (.int v), l3] st H Q := w_st (i := 2) (p := isI) (show decode kb12 77 = .ok (.istore_n 2, 1) from by decide +kernel) rfl rfl rfl rfl rfl rfl
theorem m12_77i : M12 77 [l0, l1, .val (.int z), l3] ((.int v) :: st) H Q = M12 78 [l0, l1, .val (.int v), l3] st H Q := w_st (i := 2) (p := isI) (show decode kb12 77 = .ok (.istore_n 2, 1) from by decide +kernel) rfl rfl rfl rfl rfl rfl
theorem m12_77r : M12 77 [l0, l1, .val (.ref q), l3] ((.int v) :: st) H Q = M12 78 [l0, l1, .val (.int v), l3] st H Q := w_st (i := 2) (p := isI) (show decode kb12 77 = .ok (.istore_n 2, 1) from by decide +kernel) rfl rfl rfl rfl rfl rfl
theorem m12_78 : M12 78 [.val (.ref r), l1, l2, l3] st H Q = M12 79 [.val (.ref r), l1, l2, l3] (.ref r :: st) H Q := w_x (show decode kb12 78 = .ok (.aload_n 0, 1) from by decide +kernel) rfl
theorem m12_79 : M12 79 ls (.ref b :: st) (put b pre s A post) Q = M12 82 ls (.ref (b + 5) :: st) (put b pre s A post) Q := w_get (show decode kb12 79 = .ok (.getfield 22, 3) from by decide +kernel) gf_22 put_o rfl
theorem m12_82 : M12 82 [l0, l1, .val (.int v), l3] st H Q = M12 83 [l0, l1, .val (.int v), l3] (.int v :: st) H Q := w_x (show decode kb12 82 = .ok (.iload_n 2, 1) from by decide +kernel) rfl
theorem m12_83  : M12 83 ls (.int j :: .ref (b + 5) :: st) (put b pre s A post) Q = (inB j (A 4) ∧ M12 84 ls (.int (getA (A 4) j) :: st) (put b pre s A post) Q) := w_ild (show decode kb12 83 = .ok (.iaload, 1) from by decide +kernel) rfl put_a4
theorem m12_84u : M12 84 [l0, l1, l2, .unset] ((.int v) :: st) H Q = M12 85 [l0, l1, l2, .val (.int v)] st H Q := w_st (i := 3) (p := isI) (show decode kb12 84 = .ok (.istore_n 3, 1) from by decide +kernel) rfl rfl rfl rfl rfl rfl
theorem m12_84i : M12 84 [l0, l1, l2, .val (.int z)] ((.int v) :: st) H Q = M12 85 [l0, l1, l2, .val (.int v)] st H Q := w_st (i := 3) (p := isI) (show decode kb12 84 = .ok (.istore_n 3, 1) from by decide +kernel) rfl rfl rfl rfl rfl rfl
theorem m12_84r : M12 84 [l0, l1, l2, .val (.ref q)] ((.int v) :: st) H Q = M12 85 [l0, l1, l2, .val (.int v)] st H Q := w_st (i := 3) (p := isI) (show decode kb12 84 = .ok (.istore_n 3, 1) from by decide +kernel) rfl rfl rfl rfl rfl rfl
theorem m12_85 : M12 85 [l0, l1, l2, .val (.int v)] st H Q = M12 86 [l0, l1, l2, .val (.int v)] (.int v :: st) H Q := w_x (show decode kb12 85 = .ok (.iload_n 3, 1) from by decide +kernel) rfl
theorem m12_86 : M12 86 ls (.int x :: st) H Q = if x < 0 then M12 104 ls st H Q else M12 89 ls st H Q := w_if (show decode kb12 86 = .ok (.ifCond .lt 18, 3) from by decide +kernel) (z_lt x) rfl
theorem m12_89 : M12 89 [.val (.ref r), l1, l2, l3] st H Q = M12 90 [.val (.ref r), l1, l2, l3] (.ref r :: st) H Q := w_x (show decode kb12 89 = .ok (.aload_n 0, 1) from by decide +kernel) rfl
theorem m12_90 : M12 90 ls (.ref b :: st) (put b pre s A post) Q = M12 93 ls (.ref (b + 9) :: st) (put b pre s A post) Q := w_get (show decode kb12 90 = .ok (.getfield 35, 3) from by decide +kernel) gf_35 put_o rfl
theorem m12_93 : M12 93 [l0, l1, l2, .val (.int v)] st H Q = M12 94 [l0, l1, l2, .val (.int v)] (.int v :: st) H Q := w_x (show decode kb12 93 = .ok (.iload_n 3, 1) from by decide +kernel) rfl
theorem m12_94 : M12 94 ls (.int x :: .ref q :: st) H Q = M12 95 ls (.int x :: .ref q :: .int x :: .ref q :: st) H Q := w_x (show decode kb12 94 = .ok (.dup2, 1) from by decide +kernel) rfl
theorem m12_95  : M12 95 ls (.int j :: .ref (b + 9) :: st) (put b pre s A post) Q = (inB j (A 8) ∧ M12 96 ls (.int (getA (A 8) j) :: st) (put b pre s A post) Q) := w_ild (show decode kb12 95 = .ok (.iaload, 1) from by decide +kernel) rfl put_a8
theorem m12_96 : M12 96 [.val (.ref r), l1, l2, l3] st H Q = M12 97 [.val (.ref r), l1, l2, l3] (.ref r :: st) H Q := w_x (show decode kb12 96 = .ok (.aload_n 0, 1) from by decide +kernel) rfl
theorem m12_97 : M12 97 ls (.ref b :: st) (put b pre s A post) Q = M12 100 ls (.ref (b + 9) :: st) (put b pre s A post) Q := w_get (show decode kb12 97 = .ok (.getfield 35, 3) from by decide +kernel) gf_35 put_o rfl
theorem m12_100 : M12 100 [l0, l1, .val (.int v), l3] st H Q = M12 101 [l0, l1, .val (.int v), l3] (.int v :: st) H Q := w_x (show decode kb12 100 = .ok (.iload_n 2, 1) from by decide +kernel) rfl
theorem m12_101  : M12 101 ls (.int j :: .ref (b + 9) :: st) (put b pre s A post) Q = (inB j (A 8) ∧ M12 102 ls (.int (getA (A 8) j) :: st) (put b pre s A post) Q) := w_ild (show decode kb12 101 = .ok (.iaload, 1) from by decide +kernel) rfl put_a8
theorem m12_102 : M12 102 ls (.int y :: .int x :: st) H Q = M12 103 ls (.int (x + y) :: st) H Q := w_x (show decode kb12 102 = .ok (.iadd, 1) from by decide +kernel) rfl
theorem m12_103  : M12 103 ls (.int v :: .int j :: .ref (b + 9) :: st) (put b pre s A post) Q = (inB j (A 8) ∧ M12 104 ls st (put b pre s (ou A 8 (setA (A 8) j v)) post) Q) := w_ist (show decode kb12 103 = .ok (.iastore, 1) from by decide +kernel) rfl put_a8 (Nat.zero_le _) rfl put_w8
theorem m12_104 : M12 104 [l0, .val (.int v), l2, l3] st H Q = M12 107 [l0, .val (.int (v + (-1))), l2, l3] st H Q := w_iinc (show decode kb12 104 = .ok (.iinc 1 (-1), 3) from by decide +kernel) rfl (by decide) rfl
theorem m12_107 : M12 107 ls st H Q = M12 66 ls st H Q := w_x (show decode kb12 107 = .ok (.goto (-41), 3) from by decide +kernel) rfl
theorem m12_110 : M12 110 [.val (.ref r), l1, l2, l3] st H Q = M12 111 [.val (.ref r), l1, l2, l3] (.ref r :: st) H Q := w_x (show decode kb12 110 = .ok (.aload_n 0, 1) from by decide +kernel) rfl
theorem m12_111 : M12 111 ls st H Q = M12 112 ls (.int 1 :: st) H Q := w_con (show decode kb12 111 = .ok (.iconst 1, 1) from by decide +kernel) rfl (by decide)
theorem pf12_92 : pfR tables_1 y12.cls y12.name 92 = some ("SuffixAutomat", 19, .boolean) := by decide +kernel
theorem m12_112 : M12 112 ls (.int v :: .ref b :: st) (put b pre s A post) Q = M12 115 ls st (put b pre (ou s 8 (nar .boolean v)) A post) Q := w_put (show decode kb12 112 = .ok (.putfield 92, 3) from by decide +kernel) pf12_92 put_o (Nat.zero_le _) (by show 19 < 20; omega) rfl put_s8
theorem m12_115 : M12 115 ls [] H Q = Q none H := w_vret (show decode kb12 115 = .ok (.return_, 1) from by decide +kernel) rfl
theorem m13_0 : M13 0 ls st H Q = M13 1 ls (.int 0 :: st) H Q := w_con (show decode kb13 0 = .ok (.iconst 0, 1) from by decide +kernel) rfl (by decide)
theorem m13_1u : M13 1 [l0, .unset, l2, l3] ((.int v) :: st) H Q = M13 2 [l0, .val (.int v), l2, l3] st H Q := w_st (i := 1) (p := isI) (show decode kb13 1 = .ok (.istore_n 1, 1) from by decide +kernel) rfl rfl rfl rfl rfl rfl
theorem m13_2 : M13 2 [l0, .val (.int v), l2, l3] st H Q = M13 3 [l0, .val (.int v), l2, l3] (.int v :: st) H Q := w_x (show decode kb13 2 = .ok (.iload_n 1, 1) from by decide +kernel) rfl
theorem m13_3 : M13 3 ls st H Q = M13 5 ls (.int 65 :: st) H Q := w_con (show decode kb13 3 = .ok (.bipush 65, 2) from by decide +kernel) rfl (by decide)
theorem m13_5 : M13 5 ls (.int y :: .int x :: st) H Q = if x < y then M13 8 ls st H Q else M13 21 ls st H Q := w_icmpN (show decode kb13 5 = .ok (.if_icmp .ge 16, 3) from by decide +kernel) (i_ge x y) rfl
theorem m13_8 : M13 8 [.val (.ref r), l1, l2, l3] st H Q = M13 9 [.val (.ref r), l1, l2, l3] (.ref r :: st) H Q := w_x (show decode kb13 8 = .ok (.aload_n 0, 1) from by decide +kernel) rfl
theorem m13_9 : M13 9 ls (.ref b :: st) (put b pre s A post) Q = M13 12 ls (.ref (b + 11) :: st) (put b pre s A post) Q := w_get (show decode kb13 9 = .ok (.getfield 41, 3) from by decide +kernel) gf_41 put_o rfl
theorem m13_12 : M13 12 [l0, .val (.int v), l2, l3] st H Q = M13 13 [l0, .val (.int v), l2, l3] (.int v :: st) H Q := w_x (show decode kb13 12 = .ok (.iload_n 1, 1) from by decide +kernel) rfl
theorem m13_13 : M13 13 ls st H Q = M13 14 ls (.int 0 :: st) H Q := w_con (show decode kb13 13 = .ok (.iconst 0, 1) from by decide +kernel) rfl (by decide)
theorem m13_14  : M13 14 ls (.int v :: .int j :: .ref (b + 11) :: st) (put b pre s A post) Q = (inB j (A 10) ∧ M13 15 ls st (put b pre s (ou A 10 (setA (A 10) j v)) post) Q) := w_ist (show decode kb13 14 = .ok (.iastore, 1) from by decide +kernel) rfl put_a10 (Nat.zero_le _) rfl put_w10
theorem m13_15 : M13 15 [l0, .val (.int v), l2, l3] st H Q = M13 18 [l0, .val (.int (v + 1)), l2, l3] st H Q := w_iinc (show decode kb13 15 = .ok (.iinc 1 1, 3) from by decide +kernel) rfl (by decide) rfl
theorem m13_18 : M13 18 ls st H Q = M13 2 ls st H Q := w_x (show decode kb13 18 = .ok (.goto (-16), 3) from by decide +kernel) rfl
theorem m13_21 : M13 21 ls st H Q = M13 22 ls (.int 0 :: st) H Q := w_con (show decode kb13 21 = .ok (.iconst 0, 1) from by decide +kernel) rfl (by decide)
theorem m13_22i : M13 22 [l0, .val (.int z), l2, l3] ((.int v) :: st) H Q = M13 23 [l0, .val (.int v), l2, l3] st H Q := w_st (i := 1) (p := isI) (show decode kb13 22 = .ok (.istore_n 1, 1) from by decide +kernel) rfl rfl rfl rfl rfl rfl
theorem m13_23 : M13 23 [l0, .val (.int v), l2, l3] st H Q = M13 24 [l0, .val (.int v), l2, l3] (.int v :: st) H Q := w_x (show decode kb13 23 = .ok (.iload_n 1, 1) from by decide +kernel) rfl
theorem m13_24 : M13 24 [.val (.ref r), l1, l2, l3] st H Q = M13 25 [.val (.ref r), l1, l2, l3] (.ref r :: st) H Q := w_x (show decode kb13 24 = .ok (.aload_n 0, 1) from by decide +kernel) rfl
theorem m13_25 : M13 25 ls (.ref b :: st) (put b pre s A post) Q = M13 28 ls (.int (s 5) :: st) (put b pre s A post) Q := w_get (show decode kb13 25 = .ok (.getfield 77, 3) from by decide +kernel) gf_77 put_o rfl
theorem m13_28 : M13 28 ls (.int y :: .int x :: st) H Q = if x < y then M13 31 ls st H Q else M13 59 ls st H Q := w_icmpN (show decode kb13 28 = .ok (.if_icmp .ge 31, 3) from by decide +kernel) (i_ge x y) rfl
theorem m13_31 : M13 31 [l0, .val (.int v), l2, l3] st H Q = M13 32 [l0, .val (.int v), l2, l3] (.int v :: st) H Q := w_x (show decode kb13 31 = .ok (.iload_n 1, 1) from by decide +kernel) rfl
theorem m13_32 : M13 32 ls st H Q = M13 35 ls (.int 128 :: st) H Q := w_con (show decode kb13 32 = .ok (.sipush 128, 3) from by decide +kernel) rfl (by decide)
theorem m13_35 : M13 35 ls (.int y :: .int x :: st) H Q = if x < y then M13 38 ls st H Q else M13 59 ls st H Q := w_icmpN (show decode kb13 35 = .ok (.if_icmp .ge 24, 3) from by decide +kernel) (i_ge x y) rfl
theorem m13_38 : M13 38 [.val (.ref r), l1, l2, l3] st H Q = M13 39 [.val (.ref r), l1, l2, l3] (.ref r :: st) H Q := w_x (show decode kb13 38 = .ok (.aload_n 0, 1) from by decide +kernel) rfl
theorem m13_39 : M13 39 ls (.ref b :: st) (put b pre s A post) Q = M13 42 ls (.ref (b + 11) :: st) (put b pre s A post) Q := w_get (show decode kb13 39 = .ok (.getfield 41, 3) from by decide +kernel) gf_41 put_o rfl
theorem m13_42 : M13 42 [.val (.ref r), l1, l2, l3] st H Q = M13 43 [.val (.ref r), l1, l2, l3] (.ref r :: st) H Q := w_x (show decode kb13 42 = .ok (.aload_n 0, 1) from by decide +kernel) rfl
theorem m13_43 : M13 43 ls (.ref b :: st) (put b pre s A post) Q = M13 46 ls (.ref (b + 6) :: st) (put b pre s A post) Q := w_get (show decode kb13 43 = .ok (.getfield 25, 3) from by decide +kernel) gf_25 put_o rfl
theorem m13_46 : M13 46 [l0, .val (.int v), l2, l3] st H Q = M13 47 [l0, .val (.int v), l2, l3] (.int v :: st) H Q := w_x (show decode kb13 46 = .ok (.iload_n 1, 1) from by decide +kernel) rfl
theorem m13_47  : M13 47 ls (.int j :: .ref (b + 6) :: st) (put b pre s A post) Q = (inB j (A 5) ∧ M13 48 ls (.int (getA (A 5) j) :: st) (put b pre s A post) Q) := w_ild (show decode kb13 47 = .ok (.iaload, 1) from by decide +kernel) rfl put_a5
theorem m13_48 : M13 48 ls (.int x :: .ref q :: st) H Q = M13 49 ls (.int x :: .ref q :: .int x :: .ref q :: st) H Q := w_x (show decode kb13 48 = .ok (.dup2, 1) from by decide +kernel) rfl
theorem m13_49  : M13 49 ls (.int j :: .ref (b + 11) :: st) (put b pre s A post) Q = (inB j (A 10) ∧ M13 50 ls (.int (getA (A 10) j) :: st) (put b pre s A post) Q) := w_ild (show decode kb13 49 = .ok (.iaload, 1) from by decide +kernel) rfl put_a10
theorem m13_50 : M13 50 ls st H Q = M13 51 ls (.int 1 :: st) H Q := w_con (show decode kb13 50 = .ok (.iconst 1, 1) from by decide +kernel) rfl (by decide)
theorem m13_51 : M13 51 ls (.int y :: .int x :: st) H Q = M13 52 ls (.int (x + y) :: st) H Q := w_x (show decode kb13 51 = .ok (.iadd, 1) from by decide +kernel) rfl
theorem m13_52  : M13 52 ls (.int v :: .int j :: .ref (b + 11) :: st) (put b pre s A post) Q = (inB j (A 10) ∧ M13 53 ls st (put b pre s (ou A 10 (setA (A 10) j v)) post) Q) := w_ist (show decode kb13 52 = .ok (.iastore, 1) from by decide +kernel) rfl put_a10 (Nat.zero_le _) rfl put_w10
theorem m13_53 : M13 53 [l0, .val (.int v), l2, l3] st H Q = M13 56 [l0, .val (.int (v + 1)), l2, l3] st H Q := w_iinc (show decode kb13 53 = .ok (.iinc 1 1, 3) from by decide +kernel) rfl (by decide) rfl
theorem m13_56 : M13 56 ls st H Q = M13 23 ls st H Q := w_x (show decode kb13 56 = .ok (.goto (-33), 3) from by decide +kernel) rfl
theorem m13_59 : M13 59 ls st H Q = M13 60 ls (.int 1 :: st) H Q := w_con (show decode kb13 59 = .ok (.iconst 1, 1) from by decide +kernel) rfl (by decide)
theorem m13_60i : M13 60 [l0, .val (.int z), l2, l3] ((.int v) :: st) H Q = M13 61 [l0, .val (.int v), l2, l3] st H Q := w_st (i := 1) (p := isI) (show decode kb13 60 = .ok (.istore_n 1, 1) from by decide +kernel) rfl rfl rfl rfl rfl rfl
theorem m13_61 : M13 61 [l0, .val (.int v), l2, l3] st H Q = M13 62 [l0, .val (.int v), l2, l3] (.int v :: st) H Q := w_x (show decode kb13 61 = .ok (.iload_n 1, 1) from by decide +kernel) rfl
theorem m13_62 : M13 62 ls st H Q = M13 64 ls (.int 65 :: st) H Q := w_con (show decode kb13 62 = .ok (.bipush 65, 2) from by decide +kernel) rfl (by decide)
theorem m13_64 : M13 64 ls (.int y :: .int x :: st) H Q = if x < y then M13 67 ls st H Q else M13 90 ls st H Q := w_icmpN (show decode kb13 64 = .ok (.if_icmp .ge 26, 3) from by decide +kernel) (i_ge x y) rfl
theorem m13_67 : M13 67 [.val (.ref r), l1, l2, l3] st H Q = M13 68 [.val (.ref r), l1, l2, l3] (.ref r :: st) H Q := w_x (show decode kb13 67 = .ok (.aload_n 0, 1) from by decide +kernel) rfl
theorem m13_68 : M13 68 ls (.ref b :: st) (put b pre s A post) Q = M13 71 ls (.ref (b + 11) :: st) (put b pre s A post) Q := w_get (show decode kb13 68 = .ok (.getfield 41, 3) from by decide +kernel) gf_41 put_o rfl
theorem m13_71 : M13 71 [l0, .val (.int v), l2, l3] st H Q = M13 72 [l0, .val (.int v), l2, l3] (.int v :: st) H Q := w_x (show decode kb13 71 = .ok (.iload_n 1, 1) from by decide +kernel) rfl
theorem m13_72 : M13 72 ls (.int x :: .ref q :: st) H Q = M13 73 ls (.int x :: .ref q :: .int x :: .ref q :: st) H Q := w_x (show decode kb13 72 = .ok (.dup2, 1) from by decide +kernel) rfl
theorem m13_73  : M13 73 ls (.int j :: .ref (b + 11) :: st) (put b pre s A post) Q = (inB j (A 10) ∧ M13 74 ls (.int (getA (A 10) j) :: st) (put b pre s A post) Q) := w_ild (show decode kb13 73 = .ok (.iaload, 1) from by decide +kernel) rfl put_a10
theorem m13_74 : M13 74 [.val (.ref r), l1, l2, l3] st H Q = M13 75 [.val (.ref r), l1, l2, l3] (.ref r :: st) H Q := w_x (show decode kb13 74 = .ok (.aload_n 0, 1) from by decide +kernel) rfl
theorem m13_75 : M13 75 ls (.ref b :: st) (put b pre s A post) Q = M13 78 ls (.ref (b + 11) :: st) (put b pre s A post) Q := w_get (show decode kb13 75 = .ok (.getfield 41, 3) from by decide +kernel) gf_41 put_o rfl
theorem m13_78 : M13 78 [l0, .val (.int v), l2, l3] st H Q = M13 79 [l0, .val (.int v), l2, l3] (.int v :: st) H Q := w_x (show decode kb13 78 = .ok (.iload_n 1, 1) from by decide +kernel) rfl
theorem m13_79 : M13 79 ls st H Q = M13 80 ls (.int 1 :: st) H Q := w_con (show decode kb13 79 = .ok (.iconst 1, 1) from by decide +kernel) rfl (by decide)
theorem m13_80 : M13 80 ls (.int y :: .int x :: st) H Q = M13 81 ls (.int (x - y) :: st) H Q := w_x (show decode kb13 80 = .ok (.isub, 1) from by decide +kernel) rfl
theorem m13_81  : M13 81 ls (.int j :: .ref (b + 11) :: st) (put b pre s A post) Q = (inB j (A 10) ∧ M13 82 ls (.int (getA (A 10) j) :: st) (put b pre s A post) Q) := w_ild (show decode kb13 81 = .ok (.iaload, 1) from by decide +kernel) rfl put_a10
theorem m13_82 : M13 82 ls (.int y :: .int x :: st) H Q = M13 83 ls (.int (x + y) :: st) H Q := w_x (show decode kb13 82 = .ok (.iadd, 1) from by decide +kernel) rfl
theorem m13_83  : M13 83 ls (.int v :: .int j :: .ref (b + 11) :: st) (put b pre s A post) Q = (inB j (A 10) ∧ M13 84 ls st (put b pre s (ou A 10 (setA (A 10) j v)) post) Q) := w_ist (show decode kb13 83 = .ok (.iastore, 1) from by decide +kernel) rfl put_a10 (Nat.zero_le _) rfl put_w10
theorem m13_84 : M13 84 [l0, .val (.int v), l2, l3] st H Q = M13 87 [l0, .val (.int (v + 1)), l2, l3] st H Q := w_iinc (show decode kb13 84 = .ok (.iinc 1 1, 3) from by decide +kernel) rfl (by decide) rfl
theorem m13_87 : M13 87 ls st H Q = M13 61 ls st H Q := w_x (show decode kb13 87 = .ok (.goto (-26), 3) from by decide +kernel) rfl
theorem m13_90 : M13 90 [.val (.ref r), l1, l2, l3] st H Q = M13 91 [.val (.ref r), l1, l2, l3] (.ref r :: st) H Q := w_x (show decode kb13 90 = .ok (.aload_n 0, 1) from by decide +kernel) rfl
theorem m13_91 : M13 91 ls (.ref b :: st) (put b pre s A post) Q = M13 94 ls (.int (s 5) :: st) (put b pre s A post) Q := w_get (show decode kb13 91 = .ok (.getfield 77, 3) from by decide +kernel) gf_77 put_o rfl
theorem m13_94 : M13 94 ls st H Q = M13 95 ls (.int 1 :: st) H Q := w_con (show decode kb13 94 = .ok (.iconst 1, 1) from by decide +kernel) rfl (by decide)
theorem m13_95 : M13 95 ls (.int y :: .int x :: st) H Q = M13 96 ls (.int (x - y) :: st) H Q := w_x (show decode kb13 95 = .ok (.isub, 1) from by decide +kernel) rfl
theorem m13_96i : M13 96 [l0, .val (.int z), l2, l3] ((.int v) :: st) H Q = M13 97 [l0, .val (.int v), l2, l3] st H Q := w_st (i := 1) (p := isI) (show decode kb13 96 = .ok (.istore_n 1, 1) from by decide +kernel) rfl rfl rfl rfl rfl rfl
theorem m13_97 : M13 97 [l0, .val (.int v), l2, l3] st H Q = M13 98 [l0, .val (.int v), l2, l3] (.int v :: st) H Q := w_x (show decode kb13 97 = .ok (.iload_n 1, 1) from by decide +kernel) rfl
theorem m13_98 : M13 98 ls (.int x :: st) H Q = if x < 0 then M13 149 ls st H Q else M13 101 ls st H Q := w_if (show decode kb13 98 = .ok (.ifCond .lt 51, 3) from by decide +kernel) (z_lt x) rfl
theorem m13_101 : M13 101 [.val (.ref r), l1, l2, l3] st H Q = M13 102 [.val (.ref r), l1, l2, l3] (.ref r :: st) H Q := w_x (show decode kb13 101 = .ok (.aload_n 0, 1) from by decide +kernel) rfl
theorem m13_102 : M13 102 ls (.ref b :: st) (put b pre s A post) Q = M13 105 ls (.ref (b + 6) :: st) (put b pre s A post) Q := w_get (show decode kb13 102 = .ok (.getfield 25, 3) from by decide +kernel) gf_25 put_o rfl
theorem m13_105 : M13 105 [l0, .val (.int v), l2, l3] st H Q = M13 106 [l0, .val (.int v), l2, l3] (.int v :: st) H Q := w_x (show decode kb13 105 = .ok (.iload_n 1, 1) from by decide +kernel) rfl
theorem m13_106  : M13 106 ls (.int j :: .ref (b + 6) :: st) (put b pre s A post) Q = (inB j (A 5) ∧ M13 107 ls (.int (getA (A 5) j) :: st) (put b pre s A post) Q) := w_ild (show decode kb13 106 = .ok (.iaload, 1) from by decide +kernel) rfl put_a5
theorem m13_107u : M13 107 [l0, l1, .unset, l3] ((.int v) :: st) H Q = M13 108 [l0, l1, .val (.int v), l3] st H Q := w_st (i := 2) (p := isI) (show decode kb13 107 = .ok (.istore_n 2, 1) from by decide +kernel) rfl rfl rfl rfl rfl rfl
theorem m13_107i : M13 107 [l0, l1, .val (.int z), l3] ((.int v) :: st) H Q = M13 108 [l0, l1, .val (.int v), l3] st H Q := w_st (i := 2) (p := isI) (show decode kb13 107 = .ok (.istore_n 2, 1) from by decide +kernel) rfl rfl rfl rfl rfl rfl
theorem m13_107r : M13 107 [l0, l1, .val (.ref q), l3] ((.int v) :: st) H Q = M13 108 [l0, l1, .val (.int v), l3] st H Q := w_st (i := 2) (p := isI) (show decode kb13 107 = .ok (.istore_n 2, 1) from by decide +kernel) rfl rfl rfl rfl rfl rfl
theorem m13_108 : M13 108 [.val (.ref r), l1, l2, l3] st H Q = M13 109 [.val (.ref r), l1, l2, l3] (.ref r :: st) H Q := w_x (show decode kb13 108 = .ok (.aload_n 0, 1) from by decide +kernel) rfl
theorem m13_109 : M13 109 ls (.ref b :: st) (put b pre s A post) Q = M13 112 ls (.ref (b + 11) :: st) (put b pre s A post) Q := w_get (show decode kb13 109 = .ok (.getfield 41, 3) from by decide +kernel) gf_41 put_o rfl
theorem m13_112 : M13 112 [l0, l1, .val (.int v), l3] st H Q = M13 113 [l0, l1, .val (.int v), l3] (.int v :: st) H Q := w_x (show decode kb13 112 = .ok (.iload_n 2, 1) from by decide +kernel) rfl
theorem m13_113 : M13 113 ls (.int x :: .ref q :: st) H Q = M13 114 ls (.int x :: .ref q :: .int x :: .ref q :: st) H Q := w_x (show decode kb13 113 = .ok (.dup2, 1) from by decide +kernel) rfl
theorem m13_114  : M13 114 ls (.int j :: .ref (b + 11) :: st) (put b pre s A post) Q = (inB j (A 10) ∧ M13 115 ls (.int (getA (A 10) j) :: st) (put b pre s A post) Q) := w_ild (show decode kb13 114 = .ok (.iaload, 1) from by decide +kernel) rfl put_a10
theorem m13_115 : M13 115 ls st H Q = M13 116 ls (.int 1 :: st) H Q := w_con (show decode kb13 115 = .ok (.iconst 1, 1) from by decide +kernel) rfl (by decide)
theorem m13_116 : M13 116 ls (.int y :: .int x :: st) H Q = M13 117 ls (.int (x - y) :: st) H Q := w_x (show decode kb13 116 = .ok (.isub, 1) from by decide +kernel) rfl
theorem m13_117  : M13 117 ls (.int v :: .int j :: .ref (b + 11) :: st) (put b pre s A post) Q = (inB j (A 10) ∧ M13 118 ls st (put b pre s (ou A 10 (setA (A 10) j v)) post) Q) := w_ist (show decode kb13 117 = .ok (.iastore, 1) from by decide +kernel) rfl put_a10 (Nat.zero_le _) rfl put_w10
theorem m13_118 : M13 118 [.val (.ref r), l1, l2, l3] st H Q = M13 119 [.val (.ref r), l1, l2, l3] (.ref r :: st) H Q := w_x (show decode kb13 118 = .ok (.aload_n 0, 1) from by decide +kernel) rfl
theorem m13_119 : M13 119 ls (.ref b :: st) (put b pre s A post) Q = M13 122 ls (.ref (b + 11) :: st) (put b pre s A post) Q := w_get (show decode kb13 119 = .ok (.getfield 41, 3) from by decide +kernel) gf_41 put_o rfl
theorem m13_122 : M13 122 [l0, l1, .val (.int v), l3] st H Q = M13 123 [l0, l1, .val (.int v), l3] (.int v :: st) H Q := w_x (show decode kb13 122 = .ok (.iload_n 2, 1) from by decide +kernel) rfl
theorem m13_123  : M13 123 ls (.int j :: .ref (b + 11) :: st) (put b pre s A post) Q = (inB j (A 10) ∧ M13 124 ls (.int (getA (A 10) j) :: st) (put b pre s A post) Q) := w_ild (show decode kb13 123 = .ok (.iaload, 1) from by decide +kernel) rfl put_a10
theorem m13_124u : M13 124 [l0, l1, l2, .unset] ((.int v) :: st) H Q = M13 125 [l0, l1, l2, .val (.int v)] st H Q := w_st (i := 3) (p := isI) (show decode kb13 124 = .ok (.istore_n 3, 1) from by decide +kernel) rfl rfl rfl rfl rfl rfl
theorem m13_124i : M13 124 [l0, l1, l2, .val (.int z)] ((.int v) :: st) H Q = M13 125 [l0, l1, l2, .val (.int v)] st H Q := w_st (i := 3) (p := isI) (show decode kb13 124 = .ok (.istore_n 3, 1) from by decide +kernel) rfl rfl rfl rfl rfl rfl
theorem m13_124r : M13 124 [l0, l1, l2, .val (.ref q)] ((.int v) :: st) H Q = M13 125 [l0, l1, l2, .val (.int v)] st H Q := w_st (i := 3) (p := isI) (show decode kb13 124 = .ok (.istore_n 3, 1) from by decide +kernel) rfl rfl rfl rfl rfl rfl
theorem m13_125 : M13 125 [l0, l1, l2, .val (.int v)] st H Q = M13 126 [l0, l1, l2, .val (.int v)] (.int v :: st) H Q := w_x (show decode kb13 125 = .ok (.iload_n 3, 1) from by decide +kernel) rfl
theorem m13_126 : M13 126 ls (.int x :: st) H Q = if x < 0 then M13 143 ls st H Q else M13 129 ls st H Q := w_if (show decode kb13 126 = .ok (.ifCond .lt 17, 3) from by decide +kernel) (z_lt x) rfl
theorem m13_129 : M13 129 [l0, l1, l2, .val (.int v)] st H Q = M13 130 [l0, l1, l2, .val (.int v)] (.int v :: st) H Q := w_x (show decode kb13 129 = .ok (.iload_n 3, 1) from by decide +kernel) rfl
theorem m13_130 : M13 130 ls st H Q = M13 133 ls (.int 128 :: st) H Q := w_con (show decode kb13 130 = .ok (.sipush 128, 3) from by decide +kernel) rfl (by decide)
theorem m13_133 : M13 133 ls (.int y :: .int x :: st) H Q = if x < y then M13 136 ls st H Q else M13 143 ls st H Q := w_icmpN (show decode kb13 133 = .ok (.if_icmp .ge 10, 3) from by decide +kernel) (i_ge x y) rfl
theorem m13_136 : M13 136 [.val (.ref r), l1, l2, l3] st H Q = M13 137 [.val (.ref r), l1, l2, l3] (.ref r :: st) H Q := w_x (show decode kb13 136 = .ok (.aload_n 0, 1) from by decide +kernel) rfl
theorem m13_137 : M13 137 ls (.ref b :: st) (put b pre s A post) Q = M13 140 ls (.ref (b + 10) :: st) (put b pre s A post) Q := w_get (show decode kb13 137 = .ok (.getfield 38, 3) from by decide +kernel) gf_38 put_o rfl
theorem m13_140 : M13 140 [l0, l1, l2, .val (.int v)] st H Q = M13 141 [l0, l1, l2, .val (.int v)] (.int v :: st) H Q := w_x (show decode kb13 140 = .ok (.iload_n 3, 1) from by decide +kernel) rfl
theorem m13_141 : M13 141 [l0, .val (.int v), l2, l3] st H Q = M13 142 [l0, .val (.int v), l2, l3] (.int v :: st) H Q := w_x (show decode kb13 141 = .ok (.iload_n 1, 1) from by decide +kernel) rfl
theorem m13_142  : M13 142 ls (.int v :: .int j :: .ref (b + 10) :: st) (put b pre s A post) Q = (inB j (A 9) ∧ M13 143 ls st (put b pre s (ou A 9 (setA (A 9) j v)) post) Q) := w_ist (show decode kb13 142 = .ok (.iastore, 1) from by decide +kernel) rfl put_a9 (Nat.zero_le _) rfl put_w9
theorem m13_143 : M13 143 [l0, .val (.int v), l2, l3] st H Q = M13 146 [l0, .val (.int (v + (-1))), l2, l3] st H Q := w_iinc (show decode kb13 143 = .ok (.iinc 1 (-1), 3) from by decide +kernel) rfl (by decide) rfl
theorem m13_146 : M13 146 ls st H Q = M13 97 ls st H Q := w_x (show decode kb13 146 = .ok (.goto (-49), 3) from by decide +kernel) rfl
theorem m13_149 : M13 149 ls [] H Q = Q none H := w_vret (show decode kb13 149 = .ok (.return_, 1) from by decide +kernel) rfl
theorem m14_0 : M14 0 [.val (.ref r), l1] st H Q = M14 1 [.val (.ref r), l1] (.ref r :: st) H Q := w_x (show decode kb14 0 = .ok (.aload_n 0, 1) from by decide +kernel) rfl
theorem m14_1 : M14 1 ls (.ref b :: st) (put b pre s A post) Q = M14 4 ls (.int (s 3) :: st) (put b pre s A post) Q := w_get (show decode kb14 1 = .ok (.getfield 54, 3) from by decide +kernel) gf_54 put_o rfl
theorem m14_4 : M14 4 ls (.int x :: st) H Q = if x = 0 then M14 7 ls st H Q else M14 9 ls st H Q := w_ifN (show decode kb14 4 = .ok (.ifCond .ne 5, 3) from by decide +kernel) (z_ne x) rfl
theorem m14_7 : M14 7 ls st H Q = M14 8 ls (.int 0 :: st) H Q := w_con (show decode kb14 7 = .ok (.iconst 0, 1) from by decide +kernel) rfl (by decide)
theorem m14_8 : M14 8 ls (.int z :: st) H Q = Q (some (.int z)) H := w_iret (show decode kb14 8 = .ok (.ireturn, 1) from by decide +kernel) rfl
theorem m14_9 : M14 9 [.val (.ref r), l1] st H Q = M14 10 [.val (.ref r), l1] (.ref r :: st) H Q := w_x (show decode kb14 9 = .ok (.aload_n 0, 1) from by decide +kernel) rfl
theorem m14_10 : M14 10 ls (.ref b :: st) (put b pre s A post) Q = M14 13 ls (.int (s 3) :: st) (put b pre s A post) Q := w_get (show decode kb14 10 = .ok (.getfield 54, 3) from by decide +kernel) gf_54 put_o rfl
theorem m14_13 : M14 13 [.val (.ref r), l1] st H Q = M14 14 [.val (.ref r), l1] (.ref r :: st) H Q := w_x (show decode kb14 13 = .ok (.aload_n 0, 1) from by decide +kernel) rfl
theorem m14_14 : M14 14 ls (.ref b :: st) (put b pre s A post) Q = M14 17 ls (.int (s 2) :: st) (put b pre s A post) Q := w_get (show decode kb14 14 = .ok (.getfield 51, 3) from by decide +kernel) gf_51 put_o rfl
theorem m14_17 : M14 17 ls (.int y :: .int x :: st) H Q = if y < x then M14 20 ls st H Q else M14 22 ls st H Q := w_icmpN (show decode kb14 17 = .ok (.if_icmp .le 5, 3) from by decide +kernel) (i_le x y) rfl
theorem m14_20 : M14 20 ls st H Q = M14 21 ls (.int (-1) :: st) H Q := w_con (show decode kb14 20 = .ok (.iconst (-1), 1) from by decide +kernel) rfl (by decide)
theorem m14_21 : M14 21 ls (.int z :: st) H Q = Q (some (.int z)) H := w_iret (show decode kb14 21 = .ok (.ireturn, 1) from by decide +kernel) rfl
theorem m14_22 : M14 22 [.val (.ref r), l1] st H Q = M14 23 [.val (.ref r), l1] (.ref r :: st) H Q := w_x (show decode kb14 22 = .ok (.aload_n 0, 1) from by decide +kernel) rfl
theorem cr14_67 : vR tables_1 dn y14 67 = some (true, y10, prog_1_method_23_code, 5, (some .int), 0, 0) := pR_of (cR_of (by decide +kernel) rc_10 dn_10 dn_14 (sig := ⟨[], some .int⟩) (by decide +kernel) (by decide +kernel) rfl rfl) (by decide +kernel) (by decide +kernel)
theorem m14_23 : M14 23 ls [.ref b] (put b pre s A post) Q = M10 0 [.val (.ref b), .unset, .unset, .unset, .unset] [] (put b pre s A post) (fun v H1 => M14 26 ls (v.toList ++ []) H1 Q) := w_virt (as := []) (rest := []) (a := b) (show decode kb14 23 = .ok (.invokevirtual 67, 3) from by decide +kernel) cr14_67 put_o rfl rfl (Nat.le_of_ble_eq_true rfl) (by show 1 ≤ 5; omega) rfl
theorem m14_26u : M14 26 [l0, .unset] ((.int v) :: st) H Q = M14 27 [l0, .val (.int v)] st H Q := w_st (i := 1) (p := isI) (show decode kb14 26 = .ok (.istore_n 1, 1) from by decide +kernel) rfl rfl rfl rfl rfl rfl
theorem m14_27 : M14 27 [l0, .val (.int v)] st H Q = M14 28 [l0, .val (.int v)] (.int v :: st) H Q := w_x (show decode kb14 27 = .ok (.iload_n 1, 1) from by decide +kernel) rfl
theorem m14_28 : M14 28 ls st H Q = M14 29 ls (.int (-1) :: st) H Q := w_con (show decode kb14 28 = .ok (.iconst (-1), 1) from by decide +kernel) rfl (by decide)
theorem m14_29 : M14 29 ls (.int y :: .int x :: st) H Q = if x = y then M14 32 ls st H Q else M14 34 ls st H Q := w_icmpN (show decode kb14 29 = .ok (.if_icmp .ne 5, 3) from by decide +kernel) (i_ne x y) rfl
theorem m14_32 : M14 32 ls st H Q = M14 33 ls (.int (-1) :: st) H Q := w_con (show decode kb14 32 = .ok (.iconst (-1), 1) from by decide +kernel) rfl (by decide)
theorem m14_33 : M14 33 ls (.int z :: st) H Q = Q (some (.int z)) H := w_iret (show decode kb14 33 = .ok (.ireturn, 1) from by decide +kernel) rfl
theorem m14_34 : M14 34 [.val (.ref r), l1] st H Q = M14 35 [.val (.ref r), l1] (.ref r :: st) H Q := w_x (show decode kb14 34 = .ok (.aload_n 0, 1) from by decide +kernel) rfl
theorem m14_35 : M14 35 ls (.ref b :: st) (put b pre s A post) Q = M14 38 ls (.ref (b + 7) :: st) (put b pre s A post) Q := w_get (show decode kb14 35 = .ok (.getfield 28, 3) from by decide +kernel) gf_28 put_o rfl
theorem m14_38 : M14 38 [l0, .val (.int v)] st H Q = M14 39 [l0, .val (.int v)] (.int v :: st) H Q := w_x (show decode kb14 38 = .ok (.iload_n 1, 1) from by decide +kernel) rfl
theorem m14_39  : M14 39 ls (.int j :: .ref (b + 7) :: st) (put b pre s A post) Q = (inB j (A 6) ∧ M14 40 ls (.int (getA (A 6) j) :: st) (put b pre s A post) Q) := w_ild (show decode kb14 39 = .ok (.iaload, 1) from by decide +kernel) rfl put_a6
theorem m14_40 : M14 40 [.val (.ref r), l1] st H Q = M14 41 [.val (.ref r), l1] (.ref r :: st) H Q := w_x (show decode kb14 40 = .ok (.aload_n 0, 1) from by decide +kernel) rfl
theorem m14_41 : M14 41 ls (.ref b :: st) (put b pre s A post) Q = M14 44 ls (.int (s 3) :: st) (put b pre s A post) Q := w_get (show decode kb14 41 = .ok (.getfield 54, 3) from by decide +kernel) gf_54 put_o rfl
theorem m14_44 : M14 44 ls (.int y :: .int x :: st) H Q = M14 45 ls (.int (x - y) :: st) H Q := w_x (show decode kb14 44 = .ok (.isub, 1) from by decide +kernel) rfl
theorem m14_45 : M14 45 ls st H Q = M14 46 ls (.int 1 :: st) H Q := w_con (show decode kb14 45 = .ok (.iconst 1, 1) from by decide +kernel) rfl (by decide)
theorem m14_46 : M14 46 ls (.int y :: .int x :: st) H Q = M14 47 ls (.int (x + y) :: st) H Q := w_x (show decode kb14 46 = .ok (.iadd, 1) from by decide +kernel) rfl
theorem m14_47 : M14 47 ls (.int z :: st) H Q = Q (some (.int z)) H := w_iret (show decode kb14 47 = .ok (.ireturn, 1) from by decide +kernel) rfl
theorem m15_0 : M15 0 [l0, .val (.int v), l2, l3, l4] st H Q = M15 1 [l0, .val (.int v), l2, l3, l4] (.int v :: st) H Q := w_x (show decode kb15 0 = .ok (.iload_n 1, 1) from by decide +kernel) rfl
theorem m15_1 : M15 1 ls (.int x :: st) H Q = if 0 < x then M15 4 ls st H Q else M15 12 ls st H Q := w_ifN (show decode kb15 1 = .ok (.ifCond .le 11, 3) from by decide +kernel) (z_le x) rfl
theorem m15_4 : M15 4 [l0, .val (.int v), l2, l3, l4] st H Q = M15 5 [l0, .val (.int v), l2, l3, l4] (.int v :: st) H Q := w_x (show decode kb15 4 = .ok (.iload_n 1, 1) from by decide +kernel) rfl
theorem m15_5 : M15 5 [.val (.ref r), l1, l2, l3, l4] st H Q = M15 6 [.val (.ref r), l1, l2, l3, l4] (.ref r :: st) H Q := w_x (show decode kb15 5 = .ok (.aload_n 0, 1) from by decide +kernel) rfl
theorem m15_6 : M15 6 ls (.ref b :: st) (put b pre s A post) Q = M15 9 ls (.int (s 2) :: st) (put b pre s A post) Q := w_get (show decode kb15 6 = .ok (.getfield 51, 3) from by decide +kernel) gf_51 put_o rfl
theorem m15_9 : M15 9 ls (.int y :: .int x :: st) H Q = if y < x then M15 12 ls st H Q else M15 14 ls st H Q := w_icmpN (show decode kb15 9 = .ok (.if_icmp .le 5, 3) from by decide +kernel) (i_le x y) rfl
theorem m15_12 : M15 12 ls st H Q = M15 13 ls (.int 0 :: st) H Q := w_con (show decode kb15 12 = .ok (.iconst 0, 1) from by decide +kernel) rfl (by decide)
theorem m15_13 : M15 13 ls (.int z :: st) H Q = Q (some (.int z)) H := w_iret (show decode kb15 13 = .ok (.ireturn, 1) from by decide +kernel) rfl
theorem m15_14 : M15 14 ls st H Q = M15 15 ls (.int 0 :: st) H Q := w_con (show decode kb15 14 = .ok (.iconst 0, 1) from by decide +kernel) rfl (by decide)
theorem m15_15u : M15 15 [l0, l1, .unset, l3, l4] ((.int v) :: st) H Q = M15 16 [l0, l1, .val (.int v), l3, l4] st H Q := w_st (i := 2) (p := isI) (show decode kb15 15 = .ok (.istore_n 2, 1) from by decide +kernel) rfl rfl rfl rfl rfl rfl
theorem m15_16 : M15 16 ls st H Q = M15 17 ls (.int 1 :: st) H Q := w_con (show decode kb15 16 = .ok (.iconst 1, 1) from by decide +kernel) rfl (by decide)
theorem m15_17u : M15 17 [l0, l1, l2, .unset, l4] ((.int v) :: st) H Q = M15 18 [l0, l1, l2, .val (.int v), l4] st H Q := w_st (i := 3) (p := isI) (show decode kb15 17 = .ok (.istore_n 3, 1) from by decide +kernel) rfl rfl rfl rfl rfl rfl
theorem m15_18 : M15 18 [l0, l1, l2, .val (.int v), l4] st H Q = M15 19 [l0, l1, l2, .val (.int v), l4] (.int v :: st) H Q := w_x (show decode kb15 18 = .ok (.iload_n 3, 1) from by decide +kernel) rfl
theorem m15_19 : M15 19 [.val (.ref r), l1, l2, l3, l4] st H Q = M15 20 [.val (.ref r), l1, l2, l3, l4] (.ref r :: st) H Q := w_x (show decode kb15 19 = .ok (.aload_n 0, 1) from by decide +kernel) rfl
theorem m15_20 : M15 20 ls (.ref b :: st) (put b pre s A post) Q = M15 23 ls (.int (s 5) :: st) (put b pre s A post) Q := w_get (show decode kb15 20 = .ok (.getfield 77, 3) from by decide +kernel) gf_77 put_o rfl
theorem m15_23 : M15 23 ls (.int y :: .int x :: st) H Q = if x < y then M15 26 ls st H Q else M15 76 ls st H Q := w_icmpN (show decode kb15 23 = .ok (.if_icmp .ge 53, 3) from by decide +kernel) (i_ge x y) rfl
theorem m15_26 : M15 26 [l0, l1, l2, .val (.int v), l4] st H Q = M15 27 [l0, l1, l2, .val (.int v), l4] (.int v :: st) H Q := w_x (show decode kb15 26 = .ok (.iload_n 3, 1) from by decide +kernel) rfl
theorem m15_27 : M15 27 ls st H Q = M15 30 ls (.int 128 :: st) H Q := w_con (show decode kb15 27 = .ok (.sipush 128, 3) from by decide +kernel) rfl (by decide)
theorem m15_30 : M15 30 ls (.int y :: .int x :: st) H Q = if x < y then M15 33 ls st H Q else M15 76 ls st H Q := w_icmpN (show decode kb15 30 = .ok (.if_icmp .ge 46, 3) from by decide +kernel) (i_ge x y) rfl
theorem m15_33 : M15 33 [.val (.ref r), l1, l2, l3, l4] st H Q = M15 34 [.val (.ref r), l1, l2, l3, l4] (.ref r :: st) H Q := w_x (show decode kb15 33 = .ok (.aload_n 0, 1) from by decide +kernel) rfl
theorem m15_34 : M15 34 ls (.ref b :: st) (put b pre s A post) Q = M15 37 ls (.ref (b + 5) :: st) (put b pre s A post) Q := w_get (show decode kb15 34 = .ok (.getfield 22, 3) from by decide +kernel) gf_22 put_o rfl
theorem m15_37 : M15 37 [l0, l1, l2, .val (.int v), l4] st H Q = M15 38 [l0, l1, l2, .val (.int v), l4] (.int v :: st) H Q := w_x (show decode kb15 37 = .ok (.iload_n 3, 1) from by decide +kernel) rfl
theorem m15_38  : M15 38 ls (.int j :: .ref (b + 5) :: st) (put b pre s A post) Q = (inB j (A 4) ∧ M15 39 ls (.int (getA (A 4) j) :: st) (put b pre s A post) Q) := w_ild (show decode kb15 38 = .ok (.iaload, 1) from by decide +kernel) rfl put_a4
theorem m15_39u : M15 39 [l0, l1, l2, l3, .unset] ((.int v) :: st) H Q = M15 41 [l0, l1, l2, l3, .val (.int v)] st H Q := w_st (i := 4) (p := isI) (show decode kb15 39 = .ok (.istore 4, 2) from by decide +kernel) rfl rfl rfl rfl rfl rfl
theorem m15_39i : M15 39 [l0, l1, l2, l3, .val (.int z)] ((.int v) :: st) H Q = M15 41 [l0, l1, l2, l3, .val (.int v)] st H Q := w_st (i := 4) (p := isI) (show decode kb15 39 = .ok (.istore 4, 2) from by decide +kernel) rfl rfl rfl rfl rfl rfl
theorem m15_39r : M15 39 [l0, l1, l2, l3, .val (.ref q)] ((.int v) :: st) H Q = M15 41 [l0, l1, l2, l3, .val (.int v)] st H Q := w_st (i := 4) (p := isI) (show decode kb15 39 = .ok (.istore 4, 2) from by decide +kernel) rfl rfl rfl rfl rfl rfl
theorem m15_41 : M15 41 [l0, l1, l2, l3, .val (.int v)] st H Q = M15 43 [l0, l1, l2, l3, .val (.int v)] (.int v :: st) H Q := w_x (show decode kb15 41 = .ok (.iload 4, 2) from by decide +kernel) rfl
theorem m15_43 : M15 43 ls (.int x :: st) H Q = if x < 0 then M15 70 ls st H Q else M15 46 ls st H Q := w_if (show decode kb15 43 = .ok (.ifCond .lt 27, 3) from by decide +kernel) (z_lt x) rfl
theorem m15_46 : M15 46 [.val (.ref r), l1, l2, l3, l4] st H Q = M15 47 [.val (.ref r), l1, l2, l3, l4] (.ref r :: st) H Q := w_x (show decode kb15 46 = .ok (.aload_n 0, 1) from by decide +kernel) rfl
theorem m15_47 : M15 47 ls (.ref b :: st) (put b pre s A post) Q = M15 50 ls (.ref (b + 6) :: st) (put b pre s A post) Q := w_get (show decode kb15 47 = .ok (.getfield 25, 3) from by decide +kernel) gf_25 put_o rfl
theorem m15_50 : M15 50 [l0, l1, l2, l3, .val (.int v)] st H Q = M15 52 [l0, l1, l2, l3, .val (.int v)] (.int v :: st) H Q := w_x (show decode kb15 50 = .ok (.iload 4, 2) from by decide +kernel) rfl
theorem m15_52  : M15 52 ls (.int j :: .ref (b + 6) :: st) (put b pre s A post) Q = (inB j (A 5) ∧ M15 53 ls (.int (getA (A 5) j) :: st) (put b pre s A post) Q) := w_ild (show decode kb15 52 = .ok (.iaload, 1) from by decide +kernel) rfl put_a5
theorem m15_53 : M15 53 [l0, .val (.int v), l2, l3, l4] st H Q = M15 54 [l0, .val (.int v), l2, l3, l4] (.int v :: st) H Q := w_x (show decode kb15 53 = .ok (.iload_n 1, 1) from by decide +kernel) rfl
theorem m15_54 : M15 54 ls (.int y :: .int x :: st) H Q = if x < y then M15 57 ls st H Q else M15 70 ls st H Q := w_icmpN (show decode kb15 54 = .ok (.if_icmp .ge 16, 3) from by decide +kernel) (i_ge x y) rfl
theorem m15_57 : M15 57 [l0, .val (.int v), l2, l3, l4] st H Q = M15 58 [l0, .val (.int v), l2, l3, l4] (.int v :: st) H Q := w_x (show decode kb15 57 = .ok (.iload_n 1, 1) from by decide +kernel) rfl
theorem m15_58 : M15 58 [.val (.ref r), l1, l2, l3, l4] st H Q = M15 59 [.val (.ref r), l1, l2, l3, l4] (.ref r :: st) H Q := w_x (show decode kb15 58 = .ok (.aload_n 0, 1) from by decide +kernel) rfl
theorem m15_59 : M15 59 ls (.ref b :: st) (put b pre s A post) Q = M15 62 ls (.ref (b + 6) :: st) (put b pre s A post) Q := w_get (show decode kb15 59 = .ok (.getfield 25, 3) from by decide +kernel) gf_25 put_o rfl
theorem m15_62 : M15 62 [l0, l1, l2, .val (.int v), l4] st H Q = M15 63 [l0, l1, l2, .val (.int v), l4] (.int v :: st) H Q := w_x (show decode kb15 62 = .ok (.iload_n 3, 1) from by decide +kernel) rfl
theorem m15_63  : M15 63 ls (.int j :: .ref (b + 6) :: st) (put b pre s A post) Q = (inB j (A 5) ∧ M15 64 ls (.int (getA (A 5) j) :: st) (put b pre s A post) Q) := w_ild (show decode kb15 63 = .ok (.iaload, 1) from by decide +kernel) rfl put_a5
theorem m15_64 : M15 64 ls (.int y :: .int x :: st) H Q = if y < x then M15 70 ls st H Q else M15 67 ls st H Q := w_icmp (show decode kb15 64 = .ok (.if_icmp .gt 6, 3) from by decide +kernel) (i_gt x y) rfl
theorem m15_67 : M15 67 [l0, l1, .val (.int v), l3, l4] st H Q = M15 70 [l0, l1, .val (.int (v + 1)), l3, l4] st H Q := w_iinc (show decode kb15 67 = .ok (.iinc 2 1, 3) from by decide +kernel) rfl (by decide) rfl
theorem m15_70 : M15 70 [l0, l1, l2, .val (.int v), l4] st H Q = M15 73 [l0, l1, l2, .val (.int (v + 1)), l4] st H Q := w_iinc (show decode kb15 70 = .ok (.iinc 3 1, 3) from by decide +kernel) rfl (by decide) rfl
theorem m15_73 : M15 73 ls st H Q = M15 18 ls st H Q := w_x (show decode kb15 73 = .ok (.goto (-55), 3) from by decide +kernel) rfl
theorem m15_76 : M15 76 [l0, l1, .val (.int v), l3, l4] st H Q = M15 77 [l0, l1, .val (.int v), l3, l4] (.int v :: st) H Q := w_x (show decode kb15 76 = .ok (.iload_n 2, 1) from by decide +kernel) rfl
theorem m15_77 : M15 77 ls (.int z :: st) H Q = Q (some (.int z)) H := w_iret (show decode kb15 77 = .ok (.ireturn, 1) from by decide +kernel) rfl
theorem m16_0 : M16 0 [.val (.ref r)] st H Q = M16 1 [.val (.ref r)] (.ref r :: st) H Q := w_x (show decode kb16 0 = .ok (.aload_n 0, 1) from by decide +kernel) rfl
theorem m16_1 : M16 1 ls (.ref b :: st) (put b pre s A post) Q = M16 4 ls (.int (s 7) :: st) (put b pre s A post) Q := w_get (show decode kb16 1 = .ok (.getfield 74, 3) from by decide +kernel) gf_74 put_o rfl
theorem m16_4 : M16 4 ls (.int z :: st) H Q = Q (some (.int z)) H := w_iret (show decode kb16 4 = .ok (.ireturn, 1) from by decide +kernel) rfl
theorem m17_0 : M17 0 [.val (.ref r), l1, l2, l3, l4, l5, l6, l7, l8, l9] st H Q = M17 1 [.val (.ref r), l1, l2, l3, l4, l5, l6, l7, l8, l9] (.ref r :: st) H Q := w_x (show decode kb17 0 = .ok (.aload_n 0, 1) from by decide +kernel) rfl
theorem m17_1 : M17 1 ls (.ref b :: st) (put b pre s A post) Q = M17 4 ls (.int (s 5) :: st) (put b pre s A post) Q := w_get (show decode kb17 1 = .ok (.getfield 77, 3) from by decide +kernel) gf_77 put_o rfl
theorem m17_4u : M17 4 [l0, l1, l2, l3, l4, .unset, l6, l7, l8, l9] ((.int v) :: st) H Q = M17 6 [l0, l1, l2, l3, l4, .val (.int v), l6, l7, l8, l9] st H Q := w_st (i := 5) (p := isI) (show decode kb17 4 = .ok (.istore 5, 2) from by decide +kernel) rfl rfl rfl rfl rfl rfl
theorem m17_6 : M17 6 [.val (.ref r), l1, l2, l3, l4, l5, l6, l7, l8, l9] st H Q = M17 7 [.val (.ref r), l1, l2, l3, l4, l5, l6, l7, l8, l9] (.ref r :: st) H Q := w_x (show decode kb17 6 = .ok (.aload_n 0, 1) from by decide +kernel) rfl
theorem m17_7 : M17 7 ls ((.ref r) :: st) H Q = M17 8 ls ((.ref r) :: (.ref r) :: st) H Q := w_x (show decode kb17 7 = .ok (.dup, 1) from by decide +kernel) rfl
theorem m17_8 : M17 8 ls (.ref b :: st) (put b pre s A post) Q = M17 11 ls (.int (s 5) :: st) (put b pre s A post) Q := w_get (show decode kb17 8 = .ok (.getfield 77, 3) from by decide +kernel) gf_77 put_o rfl
theorem m17_11 : M17 11 ls st H Q = M17 12 ls (.int 1 :: st) H Q := w_con (show decode kb17 11 = .ok (.iconst 1, 1) from by decide +kernel) rfl (by decide)
theorem m17_12 : M17 12 ls (.int y :: .int x :: st) H Q = M17 13 ls (.int (x + y) :: st) H Q := w_x (show decode kb17 12 = .ok (.iadd, 1) from by decide +kernel) rfl
theorem pf17_77 : pfR tables_1 y17.cls y17.name 77 = some ("SuffixAutomat", 16, .int) := by decide +kernel
theorem m17_13 : M17 13 ls (.int v :: .ref b :: st) (put b pre s A post) Q = M17 16 ls st (put b pre (ou s 5 v) A post) Q := w_put (show decode kb17 13 = .ok (.putfield 77, 3) from by decide +kernel) pf17_77 put_o (Nat.zero_le _) (by show 16 < 20; omega) rfl put_s5
theorem m17_16 : M17 16 [.val (.ref r), l1, l2, l3, l4, l5, l6, l7, l8, l9] st H Q = M17 17 [.val (.ref r), l1, l2, l3, l4, l5, l6, l7, l8, l9] (.ref r :: st) H Q := w_x (show decode kb17 16 = .ok (.aload_n 0, 1) from by decide +kernel) rfl
theorem m17_17 : M17 17 [l0, l1, l2, l3, l4, .val (.int v), l6, l7, l8, l9] st H Q = M17 19 [l0, l1, l2, l3, l4, .val (.int v), l6, l7, l8, l9] (.int v :: st) H Q := w_x (show decode kb17 17 = .ok (.iload 5, 2) from by decide +kernel) rfl
theorem cr17_96 : vR tables_1 dn y17 96 = some (true, y2, prog_1_method_19_code, 4, none, 1, 0) := pR_of (cR_of (by decide +kernel) rc_2 dn_2 dn_17 (sig := ⟨[.int], none⟩) (by decide +kernel) (by decide +kernel) rfl rfl) (by decide +kernel) (by decide +kernel)
theorem m17_19 (a0 : Int32) : M17 19 ls [.int a0, .ref b] (put b pre s A post) Q = M2 0 [.val (.ref b), .val (.int a0), .unset, .unset] [] (put b pre s A post) (fun v H1 => M17 22 ls (v.toList ++ []) H1 Q) := w_virt (as := [.int a0]) (rest := []) (a := b) (show decode kb17 19 = .ok (.invokevirtual 96, 3) from by decide +kernel) cr17_96 put_o rfl rfl (Nat.le_of_ble_eq_true rfl) (by show 2 ≤ 4; omega) rfl
theorem m17_22 : M17 22 [.val (.ref r), l1, l2, l3, l4, l5, l6, l7, l8, l9] st H Q = M17 23 [.val (.ref r), l1, l2, l3, l4, l5, l6, l7, l8, l9] (.ref r :: st) H Q := w_x (show decode kb17 22 = .ok (.aload_n 0, 1) from by decide +kernel) rfl
theorem m17_23 : M17 23 ls (.ref b :: st) (put b pre s A post) Q = M17 26 ls (.ref (b + 6) :: st) (put b pre s A post) Q := w_get (show decode kb17 23 = .ok (.getfield 25, 3) from by decide +kernel) gf_25 put_o rfl
theorem m17_26 : M17 26 [l0, l1, l2, l3, l4, .val (.int v), l6, l7, l8, l9] st H Q = M17 28 [l0, l1, l2, l3, l4, .val (.int v), l6, l7, l8, l9] (.int v :: st) H Q := w_x (show decode kb17 26 = .ok (.iload 5, 2) from by decide +kernel) rfl
theorem m17_28 : M17 28 [.val (.ref r), l1, l2, l3, l4, l5, l6, l7, l8, l9] st H Q = M17 29 [.val (.ref r), l1, l2, l3, l4, l5, l6, l7, l8, l9] (.ref r :: st) H Q := w_x (show decode kb17 28 = .ok (.aload_n 0, 1) from by decide +kernel) rfl
theorem m17_29 : M17 29 ls (.ref b :: st) (put b pre s A post) Q = M17 32 ls (.ref (b + 6) :: st) (put b pre s A post) Q := w_get (show decode kb17 29 = .ok (.getfield 25, 3) from by decide +kernel) gf_25 put_o rfl
theorem m17_32 : M17 32 [l0, .val (.int v), l2, l3, l4, l5, l6, l7, l8, l9] st H Q = M17 33 [l0, .val (.int v), l2, l3, l4, l5, l6, l7, l8, l9] (.int v :: st) H Q := w_x (show decode kb17 32 = .ok (.iload_n 1, 1) from by decide +kernel) rfl
theorem m17_33  : M17 33 ls (.int j :: .ref (b + 6) :: st) (put b pre s A post) Q = (inB j (A 5) ∧ M17 34 ls (.int (getA (A 5) j) :: st) (put b pre s A post) Q) := w_ild (show decode kb17 33 = .ok (.iaload, 1) from by decide +kernel) rfl put_a5
theorem m17_34 : M17 34 ls st H Q = M17 35 ls (.int 1 :: st) H Q := w_con (show decode kb17 34 = .ok (.iconst 1, 1) from by decide +kernel) rfl (by decide)
theorem m17_35 : M17 35 ls (.int y :: .int x :: st) H Q = M17 36 ls (.int (x + y) :: st) H Q := w_x (show decode kb17 35 = .ok (.iadd, 1) from by decide +kernel) rfl
theorem m17_36  : M17 36 ls (.int v :: .int j :: .ref (b + 6) :: st) (put b pre s A post) Q = (inB j (A 5) ∧ M17 37 ls st (put b pre s (ou A 5 (setA (A 5) j v)) post) Q) := w_ist (show decode kb17 36 = .ok (.iastore, 1) from by decide +kernel) rfl put_a5 (Nat.zero_le _) rfl put_w5
theorem m17_37 : M17 37 [.val (.ref r), l1, l2, l3, l4, l5, l6, l7, l8, l9] st H Q = M17 38 [.val (.ref r), l1, l2, l3, l4, l5, l6, l7, l8, l9] (.ref r :: st) H Q := w_x (show decode kb17 37 = .ok (.aload_n 0, 1) from by decide +kernel) rfl
theorem m17_38 : M17 38 ls (.ref b :: st) (put b pre s A post) Q = M17 41 ls (.ref (b + 5) :: st) (put b pre s A post) Q := w_get (show decode kb17 38 = .ok (.getfield 22, 3) from by decide +kernel) gf_22 put_o rfl
theorem m17_41 : M17 41 [l0, l1, l2, l3, l4, .val (.int v), l6, l7, l8, l9] st H Q = M17 43 [l0, l1, l2, l3, l4, .val (.int v), l6, l7, l8, l9] (.int v :: st) H Q := w_x (show decode kb17 41 = .ok (.iload 5, 2) from by decide +kernel) rfl
theorem m17_43 : M17 43 [.val (.ref r), l1, l2, l3, l4, l5, l6, l7, l8, l9] st H Q = M17 44 [.val (.ref r), l1, l2, l3, l4, l5, l6, l7, l8, l9] (.ref r :: st) H Q := w_x (show decode kb17 43 = .ok (.aload_n 0, 1) from by decide +kernel) rfl
theorem m17_44 : M17 44 ls (.ref b :: st) (put b pre s A post) Q = M17 47 ls (.ref (b + 5) :: st) (put b pre s A post) Q := w_get (show decode kb17 44 = .ok (.getfield 22, 3) from by decide +kernel) gf_22 put_o rfl
theorem m17_47 : M17 47 [l0, l1, l2, .val (.int v), l4, l5, l6, l7, l8, l9] st H Q = M17 48 [l0, l1, l2, .val (.int v), l4, l5, l6, l7, l8, l9] (.int v :: st) H Q := w_x (show decode kb17 47 = .ok (.iload_n 3, 1) from by decide +kernel) rfl
theorem m17_48  : M17 48 ls (.int j :: .ref (b + 5) :: st) (put b pre s A post) Q = (inB j (A 4) ∧ M17 49 ls (.int (getA (A 4) j) :: st) (put b pre s A post) Q) := w_ild (show decode kb17 48 = .ok (.iaload, 1) from by decide +kernel) rfl put_a4
theorem m17_49  : M17 49 ls (.int v :: .int j :: .ref (b + 5) :: st) (put b pre s A post) Q = (inB j (A 4) ∧ M17 50 ls st (put b pre s (ou A 4 (setA (A 4) j v)) post) Q) := w_ist (show decode kb17 49 = .ok (.iastore, 1) from by decide +kernel) rfl put_a4 (Nat.zero_le _) rfl put_w4
theorem m17_50 : M17 50 [.val (.ref r), l1, l2, l3, l4, l5, l6, l7, l8, l9] st H Q = M17 51 [.val (.ref r), l1, l2, l3, l4, l5, l6, l7, l8, l9] (.ref r :: st) H Q := w_x (show decode kb17 50 = .ok (.aload_n 0, 1) from by decide +kernel) rfl
theorem m17_51 : M17 51 ls (.ref b :: st) (put b pre s A post) Q = M17 54 ls (.ref (b + 7) :: st) (put b pre s A post) Q := w_get (show decode kb17 51 = .ok (.getfield 28, 3) from by decide +kernel) gf_28 put_o rfl
theorem m17_54 : M17 54 [l0, l1, l2, l3, l4, .val (.int v), l6, l7, l8, l9] st H Q = M17 56 [l0, l1, l2, l3, l4, .val (.int v), l6, l7, l8, l9] (.int v :: st) H Q := w_x (show decode kb17 54 = .ok (.iload 5, 2) from by decide +kernel) rfl
theorem m17_56 : M17 56 [.val (.ref r), l1, l2, l3, l4, l5, l6, l7, l8, l9] st H Q = M17 57 [.val (.ref r), l1, l2, l3, l4, l5, l6, l7, l8, l9] (.ref r :: st) H Q := w_x (show decode kb17 56 = .ok (.aload_n 0, 1) from by decide +kernel) rfl
theorem m17_57 : M17 57 ls (.ref b :: st) (put b pre s A post) Q = M17 60 ls (.ref (b + 7) :: st) (put b pre s A post) Q := w_get (show decode kb17 57 = .ok (.getfield 28, 3) from by decide +kernel) gf_28 put_o rfl
theorem m17_60 : M17 60 [l0, l1, l2, .val (.int v), l4, l5, l6, l7, l8, l9] st H Q = M17 61 [l0, l1, l2, .val (.int v), l4, l5, l6, l7, l8, l9] (.int v :: st) H Q := w_x (show decode kb17 60 = .ok (.iload_n 3, 1) from by decide +kernel) rfl
theorem m17_61  : M17 61 ls (.int j :: .ref (b + 7) :: st) (put b pre s A post) Q = (inB j (A 6) ∧ M17 62 ls (.int (getA (A 6) j) :: st) (put b pre s A post) Q) := w_ild (show decode kb17 61 = .ok (.iaload, 1) from by decide +kernel) rfl put_a6
theorem m17_62  : M17 62 ls (.int v :: .int j :: .ref (b + 7) :: st) (put b pre s A post) Q = (inB j (A 6) ∧ M17 63 ls st (put b pre s (ou A 6 (setA (A 6) j v)) post) Q) := w_ist (show decode kb17 62 = .ok (.iastore, 1) from by decide +kernel) rfl put_a6 (Nat.zero_le _) rfl put_w6
theorem m17_63 : M17 63 [.val (.ref r), l1, l2, l3, l4, l5, l6, l7, l8, l9] st H Q = M17 64 [.val (.ref r), l1, l2, l3, l4, l5, l6, l7, l8, l9] (.ref r :: st) H Q := w_x (show decode kb17 63 = .ok (.aload_n 0, 1) from by decide +kernel) rfl
theorem m17_64 : M17 64 ls (.ref b :: st) (put b pre s A post) Q = M17 67 ls (.ref (b + 8) :: st) (put b pre s A post) Q := w_get (show decode kb17 64 = .ok (.getfield 31, 3) from by decide +kernel) gf_31 put_o rfl
theorem m17_67 : M17 67 [l0, l1, l2, l3, l4, .val (.int v), l6, l7, l8, l9] st H Q = M17 69 [l0, l1, l2, l3, l4, .val (.int v), l6, l7, l8, l9] (.int v :: st) H Q := w_x (show decode kb17 67 = .ok (.iload 5, 2) from by decide +kernel) rfl
theorem m17_69 : M17 69 ls st H Q = M17 70 ls (.int 1 :: st) H Q := w_con (show decode kb17 69 = .ok (.iconst 1, 1) from by decide +kernel) rfl (by decide)
theorem m17_70  : M17 70 ls (.int v :: .int j :: .ref (b + 8) :: st) (put b pre s A post) Q = (inB j (A 7) ∧ M17 71 ls st (put b pre s (ou A 7 (setA (A 7) j (nar .boolean v))) post) Q) := w_ist (show decode kb17 70 = .ok (.bastore, 1) from by decide +kernel) rfl put_a7 (Nat.zero_le _) rfl put_w7
theorem m17_71 : M17 71 [l0, l1, l2, .val (.int v), l4, l5, l6, l7, l8, l9] st H Q = M17 72 [l0, l1, l2, .val (.int v), l4, l5, l6, l7, l8, l9] (.int v :: st) H Q := w_x (show decode kb17 71 = .ok (.iload_n 3, 1) from by decide +kernel) rfl
theorem m17_72 : M17 72 ls st H Q = M17 74 ls (.int 8 :: st) H Q := w_con (show decode kb17 72 = .ok (.bipush 8, 2) from by decide +kernel) rfl (by decide)
theorem m17_74 : M17 74 ls (.int y :: .int x :: st) H Q = M17 75 ls (.int (x * y) :: st) H Q := w_x (show decode kb17 74 = .ok (.imul, 1) from by decide +kernel) rfl
theorem m17_75u : M17 75 [l0, l1, l2, l3, l4, l5, .unset, l7, l8, l9] ((.int v) :: st) H Q = M17 77 [l0, l1, l2, l3, l4, l5, .val (.int v), l7, l8, l9] st H Q := w_st (i := 6) (p := isI) (show decode kb17 75 = .ok (.istore 6, 2) from by decide +kernel) rfl rfl rfl rfl rfl rfl
theorem m17_77 : M17 77 [l0, l1, l2, l3, l4, .val (.int v), l6, l7, l8, l9] st H Q = M17 79 [l0, l1, l2, l3, l4, .val (.int v), l6, l7, l8, l9] (.int v :: st) H Q := w_x (show decode kb17 77 = .ok (.iload 5, 2) from by decide +kernel) rfl
theorem m17_79 : M17 79 ls st H Q = M17 81 ls (.int 8 :: st) H Q := w_con (show decode kb17 79 = .ok (.bipush 8, 2) from by decide +kernel) rfl (by decide)
theorem m17_81 : M17 81 ls (.int y :: .int x :: st) H Q = M17 82 ls (.int (x * y) :: st) H Q := w_x (show decode kb17 81 = .ok (.imul, 1) from by decide +kernel) rfl
theorem m17_82u : M17 82 [l0, l1, l2, l3, l4, l5, l6, .unset, l8, l9] ((.int v) :: st) H Q = M17 84 [l0, l1, l2, l3, l4, l5, l6, .val (.int v), l8, l9] st H Q := w_st (i := 7) (p := isI) (show decode kb17 82 = .ok (.istore 7, 2) from by decide +kernel) rfl rfl rfl rfl rfl rfl
theorem m17_84 : M17 84 ls st H Q = M17 85 ls (.int 0 :: st) H Q := w_con (show decode kb17 84 = .ok (.iconst 0, 1) from by decide +kernel) rfl (by decide)
theorem m17_85u : M17 85 [l0, l1, l2, l3, l4, l5, l6, l7, .unset, l9] ((.int v) :: st) H Q = M17 87 [l0, l1, l2, l3, l4, l5, l6, l7, .val (.int v), l9] st H Q := w_st (i := 8) (p := isI) (show decode kb17 85 = .ok (.istore 8, 2) from by decide +kernel) rfl rfl rfl rfl rfl rfl
theorem m17_87 : M17 87 [l0, l1, l2, l3, l4, l5, l6, l7, .val (.int v), l9] st H Q = M17 89 [l0, l1, l2, l3, l4, l5, l6, l7, .val (.int v), l9] (.int v :: st) H Q := w_x (show decode kb17 87 = .ok (.iload 8, 2) from by decide +kernel) rfl
theorem m17_89 : M17 89 ls st H Q = M17 91 ls (.int 8 :: st) H Q := w_con (show decode kb17 89 = .ok (.bipush 8, 2) from by decide +kernel) rfl (by decide)
theorem m17_91 : M17 91 ls (.int y :: .int x :: st) H Q = if x < y then M17 94 ls st H Q else M17 120 ls st H Q := w_icmpN (show decode kb17 91 = .ok (.if_icmp .ge 29, 3) from by decide +kernel) (i_ge x y) rfl
theorem m17_94 : M17 94 [.val (.ref r), l1, l2, l3, l4, l5, l6, l7, l8, l9] st H Q = M17 95 [.val (.ref r), l1, l2, l3, l4, l5, l6, l7, l8, l9] (.ref r :: st) H Q := w_x (show decode kb17 94 = .ok (.aload_n 0, 1) from by decide +kernel) rfl
theorem m17_95 : M17 95 ls (.ref b :: st) (put b pre s A post) Q = M17 98 ls (.ref (b + 4) :: st) (put b pre s A post) Q := w_get (show decode kb17 95 = .ok (.getfield 19, 3) from by decide +kernel) gf_19 put_o rfl
theorem m17_98 : M17 98 [l0, l1, l2, l3, l4, l5, l6, .val (.int v), l8, l9] st H Q = M17 100 [l0, l1, l2, l3, l4, l5, l6, .val (.int v), l8, l9] (.int v :: st) H Q := w_x (show decode kb17 98 = .ok (.iload 7, 2) from by decide +kernel) rfl
theorem m17_100 : M17 100 [l0, l1, l2, l3, l4, l5, l6, l7, .val (.int v), l9] st H Q = M17 102 [l0, l1, l2, l3, l4, l5, l6, l7, .val (.int v), l9] (.int v :: st) H Q := w_x (show decode kb17 100 = .ok (.iload 8, 2) from by decide +kernel) rfl
theorem m17_102 : M17 102 ls (.int y :: .int x :: st) H Q = M17 103 ls (.int (x + y) :: st) H Q := w_x (show decode kb17 102 = .ok (.iadd, 1) from by decide +kernel) rfl
theorem m17_103 : M17 103 [.val (.ref r), l1, l2, l3, l4, l5, l6, l7, l8, l9] st H Q = M17 104 [.val (.ref r), l1, l2, l3, l4, l5, l6, l7, l8, l9] (.ref r :: st) H Q := w_x (show decode kb17 103 = .ok (.aload_n 0, 1) from by decide +kernel) rfl
theorem m17_104 : M17 104 ls (.ref b :: st) (put b pre s A post) Q = M17 107 ls (.ref (b + 4) :: st) (put b pre s A post) Q := w_get (show decode kb17 104 = .ok (.getfield 19, 3) from by decide +kernel) gf_19 put_o rfl
theorem m17_107 : M17 107 [l0, l1, l2, l3, l4, l5, .val (.int v), l7, l8, l9] st H Q = M17 109 [l0, l1, l2, l3, l4, l5, .val (.int v), l7, l8, l9] (.int v :: st) H Q := w_x (show decode kb17 107 = .ok (.iload 6, 2) from by decide +kernel) rfl
theorem m17_109 : M17 109 [l0, l1, l2, l3, l4, l5, l6, l7, .val (.int v), l9] st H Q = M17 111 [l0, l1, l2, l3, l4, l5, l6, l7, .val (.int v), l9] (.int v :: st) H Q := w_x (show decode kb17 109 = .ok (.iload 8, 2) from by decide +kernel) rfl
theorem m17_111 : M17 111 ls (.int y :: .int x :: st) H Q = M17 112 ls (.int (x + y) :: st) H Q := w_x (show decode kb17 111 = .ok (.iadd, 1) from by decide +kernel) rfl
theorem m17_112  : M17 112 ls (.int j :: .ref (b + 4) :: st) (put b pre s A post) Q = (inB j (A 3) ∧ M17 113 ls (.int (getA (A 3) j) :: st) (put b pre s A post) Q) := w_ild (show decode kb17 112 = .ok (.iaload, 1) from by decide +kernel) rfl put_a3
theorem m17_113  : M17 113 ls (.int v :: .int j :: .ref (b + 4) :: st) (put b pre s A post) Q = (inB j (A 3) ∧ M17 114 ls st (put b pre s (ou A 3 (setA (A 3) j v)) post) Q) := w_ist (show decode kb17 113 = .ok (.iastore, 1) from by decide +kernel) rfl put_a3 (Nat.zero_le _) rfl put_w3
theorem m17_114 : M17 114 [l0, l1, l2, l3, l4, l5, l6, l7, .val (.int v), l9] st H Q = M17 117 [l0, l1, l2, l3, l4, l5, l6, l7, .val (.int (v + 1)), l9] st H Q := w_iinc (show decode kb17 114 = .ok (.iinc 8 1, 3) from by decide +kernel) rfl (by decide) rfl
theorem m17_117 : M17 117 ls st H Q = M17 87 ls st H Q := w_x (show decode kb17 117 = .ok (.goto (-30), 3) from by decide +kernel) rfl
theorem m17_120 : M17 120 [l0, .val (.int v), l2, l3, l4, l5, l6, l7, l8, l9] st H Q = M17 121 [l0, .val (.int v), l2, l3, l4, l5, l6, l7, l8, l9] (.int v :: st) H Q := w_x (show decode kb17 120 = .ok (.iload_n 1, 1) from by decide +kernel) rfl
theorem m17_121i : M17 121 [l0, l1, l2, l3, l4, l5, l6, l7, .val (.int z), l9] ((.int v) :: st) H Q = M17 123 [l0, l1, l2, l3, l4, l5, l6, l7, .val (.int v), l9] st H Q := w_st (i := 8) (p := isI) (show decode kb17 121 = .ok (.istore 8, 2) from by decide +kernel) rfl rfl rfl rfl rfl rfl
theorem m17_123 : M17 123 ls st H Q = M17 124 ls (.int 0 :: st) H Q := w_con (show decode kb17 123 = .ok (.iconst 0, 1) from by decide +kernel) rfl (by decide)
theorem m17_124u : M17 124 [l0, l1, l2, l3, l4, l5, l6, l7, l8, .unset] ((.int v) :: st) H Q = M17 126 [l0, l1, l2, l3, l4, l5, l6, l7, l8, .val (.int v)] st H Q := w_st (i := 9) (p := isI) (show decode kb17 124 = .ok (.istore 9, 2) from by decide +kernel) rfl rfl rfl rfl rfl rfl
theorem m17_126 : M17 126 [l0, l1, l2, l3, l4, l5, l6, l7, l8, .val (.int v)] st H Q = M17 128 [l0, l1, l2, l3, l4, l5, l6, l7, l8, .val (.int v)] (.int v :: st) H Q := w_x (show decode kb17 126 = .ok (.iload 9, 2) from by decide +kernel) rfl
theorem m17_128 : M17 128 ls st H Q = M17 131 ls (.int 128 :: st) H Q := w_con (show decode kb17 128 = .ok (.sipush 128, 3) from by decide +kernel) rfl (by decide)
theorem m17_131 : M17 131 ls (.int y :: .int x :: st) H Q = if x < y then M17 134 ls st H Q else M17 184 ls st H Q := w_icmpN (show decode kb17 131 = .ok (.if_icmp .ge 53, 3) from by decide +kernel) (i_ge x y) rfl
theorem m17_134 : M17 134 [l0, l1, l2, l3, l4, l5, l6, l7, .val (.int v), l9] st H Q = M17 136 [l0, l1, l2, l3, l4, l5, l6, l7, .val (.int v), l9] (.int v :: st) H Q := w_x (show decode kb17 134 = .ok (.iload 8, 2) from by decide +kernel) rfl
theorem m17_136 : M17 136 ls (.int x :: st) H Q = if x < 0 then M17 184 ls st H Q else M17 139 ls st H Q := w_if (show decode kb17 136 = .ok (.ifCond .lt 48, 3) from by decide +kernel) (z_lt x) rfl
theorem m17_139 : M17 139 [.val (.ref r), l1, l2, l3, l4, l5, l6, l7, l8, l9] st H Q = M17 140 [.val (.ref r), l1, l2, l3, l4, l5, l6, l7, l8, l9] (.ref r :: st) H Q := w_x (show decode kb17 139 = .ok (.aload_n 0, 1) from by decide +kernel) rfl
theorem m17_140 : M17 140 ls (.ref b :: st) (put b pre s A post) Q = M17 143 ls (.ref (b + 4) :: st) (put b pre s A post) Q := w_get (show decode kb17 140 = .ok (.getfield 19, 3) from by decide +kernel) gf_19 put_o rfl
theorem m17_143 : M17 143 [l0, l1, l2, l3, l4, l5, l6, l7, .val (.int v), l9] st H Q = M17 145 [l0, l1, l2, l3, l4, l5, l6, l7, .val (.int v), l9] (.int v :: st) H Q := w_x (show decode kb17 143 = .ok (.iload 8, 2) from by decide +kernel) rfl
theorem m17_145 : M17 145 ls st H Q = M17 147 ls (.int 8 :: st) H Q := w_con (show decode kb17 145 = .ok (.bipush 8, 2) from by decide +kernel) rfl (by decide)
theorem m17_147 : M17 147 ls (.int y :: .int x :: st) H Q = M17 148 ls (.int (x * y) :: st) H Q := w_x (show decode kb17 147 = .ok (.imul, 1) from by decide +kernel) rfl
theorem m17_148 : M17 148 [l0, l1, .val (.int v), l3, l4, l5, l6, l7, l8, l9] st H Q = M17 149 [l0, l1, .val (.int v), l3, l4, l5, l6, l7, l8, l9] (.int v :: st) H Q := w_x (show decode kb17 148 = .ok (.iload_n 2, 1) from by decide +kernel) rfl
theorem m17_149 : M17 149 ls (.int y :: .int x :: st) H Q = M17 150 ls (.int (x + y) :: st) H Q := w_x (show decode kb17 149 = .ok (.iadd, 1) from by decide +kernel) rfl
theorem m17_150  : M17 150 ls (.int j :: .ref (b + 4) :: st) (put b pre s A post) Q = (inB j (A 3) ∧ M17 151 ls (.int (getA (A 3) j) :: st) (put b pre s A post) Q) := w_ild (show decode kb17 150 = .ok (.iaload, 1) from by decide +kernel) rfl put_a3
theorem m17_151 : M17 151 [l0, l1, l2, .val (.int v), l4, l5, l6, l7, l8, l9] st H Q = M17 152 [l0, l1, l2, .val (.int v), l4, l5, l6, l7, l8, l9] (.int v :: st) H Q := w_x (show decode kb17 151 = .ok (.iload_n 3, 1) from by decide +kernel) rfl
theorem m17_152 : M17 152 ls (.int y :: .int x :: st) H Q = if x = y then M17 155 ls st H Q else M17 184 ls st H Q := w_icmpN (show decode kb17 152 = .ok (.if_icmp .ne 32, 3) from by decide +kernel) (i_ne x y) rfl
theorem m17_155 : M17 155 [.val (.ref r), l1, l2, l3, l4, l5, l6, l7, l8, l9] st H Q = M17 156 [.val (.ref r), l1, l2, l3, l4, l5, l6, l7, l8, l9] (.ref r :: st) H Q := w_x (show decode kb17 155 = .ok (.aload_n 0, 1) from by decide +kernel) rfl
theorem m17_156 : M17 156 ls (.ref b :: st) (put b pre s A post) Q = M17 159 ls (.ref (b + 4) :: st) (put b pre s A post) Q := w_get (show decode kb17 156 = .ok (.getfield 19, 3) from by decide +kernel) gf_19 put_o rfl
theorem m17_159 : M17 159 [l0, l1, l2, l3, l4, l5, l6, l7, .val (.int v), l9] st H Q = M17 161 [l0, l1, l2, l3, l4, l5, l6, l7, .val (.int v), l9] (.int v :: st) H Q := w_x (show decode kb17 159 = .ok (.iload 8, 2) from by decide +kernel) rfl
theorem m17_161 : M17 161 ls st H Q = M17 163 ls (.int 8 :: st) H Q := w_con (show decode kb17 161 = .ok (.bipush 8, 2) from by decide +kernel) rfl (by decide)
theorem m17_163 : M17 163 ls (.int y :: .int x :: st) H Q = M17 164 ls (.int (x * y) :: st) H Q := w_x (show decode kb17 163 = .ok (.imul, 1) from by decide +kernel) rfl
theorem m17_164 : M17 164 [l0, l1, .val (.int v), l3, l4, l5, l6, l7, l8, l9] st H Q = M17 165 [l0, l1, .val (.int v), l3, l4, l5, l6, l7, l8, l9] (.int v :: st) H Q := w_x (show decode kb17 164 = .ok (.iload_n 2, 1) from by decide +kernel) rfl
theorem m17_165 : M17 165 ls (.int y :: .int x :: st) H Q = M17 166 ls (.int (x + y) :: st) H Q := w_x (show decode kb17 165 = .ok (.iadd, 1) from by decide +kernel) rfl
theorem m17_166 : M17 166 [l0, l1, l2, l3, l4, .val (.int v), l6, l7, l8, l9] st H Q = M17 168 [l0, l1, l2, l3, l4, .val (.int v), l6, l7, l8, l9] (.int v :: st) H Q := w_x (show decode kb17 166 = .ok (.iload 5, 2) from by decide +kernel) rfl
theorem m17_168  : M17 168 ls (.int v :: .int j :: .ref (b + 4) :: st) (put b pre s A post) Q = (inB j (A 3) ∧ M17 169 ls st (put b pre s (ou A 3 (setA (A 3) j v)) post) Q) := w_ist (show decode kb17 168 = .ok (.iastore, 1) from by decide +kernel) rfl put_a3 (Nat.zero_le _) rfl put_w3
theorem m17_169 : M17 169 [.val (.ref r), l1, l2, l3, l4, l5, l6, l7, l8, l9] st H Q = M17 170 [.val (.ref r), l1, l2, l3, l4, l5, l6, l7, l8, l9] (.ref r :: st) H Q := w_x (show decode kb17 169 = .ok (.aload_n 0, 1) from by decide +kernel) rfl
theorem m17_170 : M17 170 ls (.ref b :: st) (put b pre s A post) Q = M17 173 ls (.ref (b + 5) :: st) (put b pre s A post) Q := w_get (show decode kb17 170 = .ok (.getfield 22, 3) from by decide +kernel) gf_22 put_o rfl
theorem m17_173 : M17 173 [l0, l1, l2, l3, l4, l5, l6, l7, .val (.int v), l9] st H Q = M17 175 [l0, l1, l2, l3, l4, l5, l6, l7, .val (.int v), l9] (.int v :: st) H Q := w_x (show decode kb17 173 = .ok (.iload 8, 2) from by decide +kernel) rfl
theorem m17_175  : M17 175 ls (.int j :: .ref (b + 5) :: st) (put b pre s A post) Q = (inB j (A 4) ∧ M17 176 ls (.int (getA (A 4) j) :: st) (put b pre s A post) Q) := w_ild (show decode kb17 175 = .ok (.iaload, 1) from by decide +kernel) rfl put_a4
theorem m17_176i : M17 176 [l0, l1, l2, l3, l4, l5, l6, l7, .val (.int z), l9] ((.int v) :: st) H Q = M17 178 [l0, l1, l2, l3, l4, l5, l6, l7, .val (.int v), l9] st H Q := w_st (i := 8) (p := isI) (show decode kb17 176 = .ok (.istore 8, 2) from by decide +kernel) rfl rfl rfl rfl rfl rfl
theorem m17_178 : M17 178 [l0, l1, l2, l3, l4, l5, l6, l7, l8, .val (.int v)] st H Q = M17 181 [l0, l1, l2, l3, l4, l5, l6, l7, l8, .val (.int (v + 1))] st H Q := w_iinc (show decode kb17 178 = .ok (.iinc 9 1, 3) from by decide +kernel) rfl (by decide) rfl
theorem m17_181 : M17 181 ls st H Q = M17 126 ls st H Q := w_x (show decode kb17 181 = .ok (.goto (-55), 3) from by decide +kernel) rfl
theorem m17_184 : M17 184 [.val (.ref r), l1, l2, l3, l4, l5, l6, l7, l8, l9] st H Q = M17 185 [.val (.ref r), l1, l2, l3, l4, l5, l6, l7, l8, l9] (.ref r :: st) H Q := w_x (show decode kb17 184 = .ok (.aload_n 0, 1) from by decide +kernel) rfl
theorem m17_185 : M17 185 ls (.ref b :: st) (put b pre s A post) Q = M17 188 ls (.ref (b + 5) :: st) (put b pre s A post) Q := w_get (show decode kb17 185 = .ok (.getfield 22, 3) from by decide +kernel) gf_22 put_o rfl
theorem m17_188 : M17 188 [l0, l1, l2, .val (.int v), l4, l5, l6, l7, l8, l9] st H Q = M17 189 [l0, l1, l2, .val (.int v), l4, l5, l6, l7, l8, l9] (.int v :: st) H Q := w_x (show decode kb17 188 = .ok (.iload_n 3, 1) from by decide +kernel) rfl
theorem m17_189 : M17 189 [l0, l1, l2, l3, l4, .val (.int v), l6, l7, l8, l9] st H Q = M17 191 [l0, l1, l2, l3, l4, .val (.int v), l6, l7, l8, l9] (.int v :: st) H Q := w_x (show decode kb17 189 = .ok (.iload 5, 2) from by decide +kernel) rfl
theorem m17_191  : M17 191 ls (.int v :: .int j :: .ref (b + 5) :: st) (put b pre s A post) Q = (inB j (A 4) ∧ M17 192 ls st (put b pre s (ou A 4 (setA (A 4) j v)) post) Q) := w_ist (show decode kb17 191 = .ok (.iastore, 1) from by decide +kernel) rfl put_a4 (Nat.zero_le _) rfl put_w4
theorem m17_192 : M17 192 [.val (.ref r), l1, l2, l3, l4, l5, l6, l7, l8, l9] st H Q = M17 193 [.val (.ref r), l1, l2, l3, l4, l5, l6, l7, l8, l9] (.ref r :: st) H Q := w_x (show decode kb17 192 = .ok (.aload_n 0, 1) from by decide +kernel) rfl
theorem m17_193 : M17 193 ls (.ref b :: st) (put b pre s A post) Q = M17 196 ls (.ref (b + 5) :: st) (put b pre s A post) Q := w_get (show decode kb17 193 = .ok (.getfield 22, 3) from by decide +kernel) gf_22 put_o rfl
theorem m17_196 : M17 196 [l0, l1, l2, l3, .val (.int v), l5, l6, l7, l8, l9] st H Q = M17 198 [l0, l1, l2, l3, .val (.int v), l5, l6, l7, l8, l9] (.int v :: st) H Q := w_x (show decode kb17 196 = .ok (.iload 4, 2) from by decide +kernel) rfl
theorem m17_198 : M17 198 [l0, l1, l2, l3, l4, .val (.int v), l6, l7, l8, l9] st H Q = M17 200 [l0, l1, l2, l3, l4, .val (.int v), l6, l7, l8, l9] (.int v :: st) H Q := w_x (show decode kb17 198 = .ok (.iload 5, 2) from by decide +kernel) rfl
theorem m17_200  : M17 200 ls (.int v :: .int j :: .ref (b + 5) :: st) (put b pre s A post) Q = (inB j (A 4) ∧ M17 201 ls st (put b pre s (ou A 4 (setA (A 4) j v)) post) Q) := w_ist (show decode kb17 200 = .ok (.iastore, 1) from by decide +kernel) rfl put_a4 (Nat.zero_le _) rfl put_w4
theorem m17_201 : M17 201 ls [] H Q = Q none H := w_vret (show decode kb17 201 = .ok (.return_, 1) from by decide +kernel) rfl
theorem m18_0 : M18 0 [.val (.int v), l1, l2, l3, l4, l5, l6, l7, l8, l9, l10, l11, l12, l13, l14, l15, l16, l17, l18, l19, l20, l21, l22, l23, l24, l25] st H Q = M18 1 [.val (.int v), l1, l2, l3, l4, l5, l6, l7, l8, l9, l10, l11, l12, l13, l14, l15, l16, l17, l18, l19, l20, l21, l22, l23, l24, l25] (.int v :: st) H Q := w_x at_0 rfl
theorem m18_1 : M18 1 ls st H Q = M18 2 ls (.int 1 :: st) H Q := w_con at_1 rfl (by decide)
theorem m18_2 : M18 2 ls (.int y :: .int x :: st) H Q = M18 3 ls (.int (x &&& y) :: st) H Q := w_x at_2 rfl
theorem m18_3u : M18 3 [l0, l1, l2, l3, l4, l5, .unset, l7, l8, l9, l10, l11, l12, l13, l14, l15, l16, l17, l18, l19, l20, l21, l22, l23, l24, l25] ((.int v) :: st) H Q = M18 5 [l0, l1, l2, l3, l4, l5, .val (.int v), l7, l8, l9, l10, l11, l12, l13, l14, l15, l16, l17, l18, l19, l20, l21, l22, l23, l24, l25] st H Q := w_st (i := 6) (p := isI) at_3 rfl rfl rfl rfl rfl rfl
theorem m18_5 : M18 5 [l0, .val (.int v), l2, l3, l4, l5, l6, l7, l8, l9, l10, l11, l12, l13, l14, l15, l16, l17, l18, l19, l20, l21, l22, l23, l24, l25] st H Q = M18 6 [l0, .val (.int v), l2, l3, l4, l5, l6, l7, l8, l9, l10, l11, l12, l13, l14, l15, l16, l17, l18, l19, l20, l21, l22, l23, l24, l25] (.int v :: st) H Q := w_x at_5 rfl
theorem m18_6 : M18 6 ls st H Q = M18 7 ls (.int 1 :: st) H Q := w_con at_6 rfl (by decide)
theorem m18_7 : M18 7 ls (.int y :: .int x :: st) H Q = M18 8 ls (.int (x &&& y) :: st) H Q := w_x at_7 rfl
theorem m18_8u : M18 8 [l0, l1, l2, l3, l4, l5, l6, .unset, l8, l9, l10, l11, l12, l13, l14, l15, l16, l17, l18, l19, l20, l21, l22, l23, l24, l25] ((.int v) :: st) H Q = M18 10 [l0, l1, l2, l3, l4, l5, l6, .val (.int v), l8, l9, l10, l11, l12, l13, l14, l15, l16, l17, l18, l19, l20, l21, l22, l23, l24, l25] st H Q := w_st (i := 7) (p := isI) at_8 rfl rfl rfl rfl rfl rfl
theorem m18_10 : M18 10 [l0, l1, .val (.int v), l3, l4, l5, l6, l7, l8, l9, l10, l11, l12, l13, l14, l15, l16, l17, l18, l19, l20, l21, l22, l23, l24, l25] st H Q = M18 11 [l0, l1, .val (.int v), l3, l4, l5, l6, l7, l8, l9, l10, l11, l12, l13, l14, l15, l16, l17, l18, l19, l20, l21, l22, l23, l24, l25] (.int v :: st) H Q := w_x at_10 rfl
theorem m18_11 : M18 11 ls st H Q = M18 12 ls (.int 1 :: st) H Q := w_con at_11 rfl (by decide)
theorem m18_12 : M18 12 ls (.int y :: .int x :: st) H Q = M18 13 ls (.int (x &&& y) :: st) H Q := w_x at_12 rfl
theorem m18_13u : M18 13 [l0, l1, l2, l3, l4, l5, l6, l7, .unset, l9, l10, l11, l12, l13, l14, l15, l16, l17, l18, l19, l20, l21, l22, l23, l24, l25] ((.int v) :: st) H Q = M18 15 [l0, l1, l2, l3, l4, l5, l6, l7, .val (.int v), l9, l10, l11, l12, l13, l14, l15, l16, l17, l18, l19, l20, l21, l22, l23, l24, l25] st H Q := w_st (i := 8) (p := isI) at_13 rfl rfl rfl rfl rfl rfl
theorem m18_15 : M18 15 [l0, l1, l2, .val (.int v), l4, l5, l6, l7, l8, l9, l10, l11, l12, l13, l14, l15, l16, l17, l18, l19, l20, l21, l22, l23, l24, l25] st H Q = M18 16 [l0, l1, l2, .val (.int v), l4, l5, l6, l7, l8, l9, l10, l11, l12, l13, l14, l15, l16, l17, l18, l19, l20, l21, l22, l23, l24, l25] (.int v :: st) H Q := w_x at_15 rfl
theorem m18_16 : M18 16 ls st H Q = M18 17 ls (.int 1 :: st) H Q := w_con at_16 rfl (by decide)
theorem m18_17 : M18 17 ls (.int y :: .int x :: st) H Q = M18 18 ls (.int (x &&& y) :: st) H Q := w_x at_17 rfl
theorem m18_18u : M18 18 [l0, l1, l2, l3, l4, l5, l6, l7, l8, .unset, l10, l11, l12, l13, l14, l15, l16, l17, l18, l19, l20, l21, l22, l23, l24, l25] ((.int v) :: st) H Q = M18 20 [l0, l1, l2, l3, l4, l5, l6, l7, l8, .val (.int v), l10, l11, l12, l13, l14, l15, l16, l17, l18, l19, l20, l21, l22, l23, l24, l25] st H Q := w_st (i := 9) (p := isI) at_18 rfl rfl rfl rfl rfl rfl
theorem m18_20 : M18 20 [l0, l1, l2, l3, .val (.int v), l5, l6, l7, l8, l9, l10, l11, l12, l13, l14, l15, l16, l17, l18, l19, l20, l21, l22, l23, l24, l25] st H Q = M18 22 [l0, l1, l2, l3, .val (.int v), l5, l6, l7, l8, l9, l10, l11, l12, l13, l14, l15, l16, l17, l18, l19, l20, l21, l22, l23, l24, l25] (.int v :: st) H Q := w_x at_20 rfl
theorem m18_22 : M18 22 ls st H Q = M18 23 ls (.int 1 :: st) H Q := w_con at_22 rfl (by decide)
theorem m18_23 : M18 23 ls (.int y :: .int x :: st) H Q = M18 24 ls (.int (x &&& y) :: st) H Q := w_x at_23 rfl
theorem m18_24u : M18 24 [l0, l1, l2, l3, l4, l5, l6, l7, l8, l9, .unset, l11, l12, l13, l14, l15, l16, l17, l18, l19, l20, l21, l22, l23, l24, l25] ((.int v) :: st) H Q = M18 26 [l0, l1, l2, l3, l4, l5, l6, l7, l8, l9, .val (.int v), l11, l12, l13, l14, l15, l16, l17, l18, l19, l20, l21, l22, l23, l24, l25] st H Q := w_st (i := 10) (p := isI) at_24 rfl rfl rfl rfl rfl rfl
theorem m18_26 : M18 26 [l0, l1, l2, l3, l4, .val (.int v), l6, l7, l8, l9, l10, l11, l12, l13, l14, l15, l16, l17, l18, l19, l20, l21, l22, l23, l24, l25] st H Q = M18 28 [l0, l1, l2, l3, l4, .val (.int v), l6, l7, l8, l9, l10, l11, l12, l13, l14, l15, l16, l17, l18, l19, l20, l21, l22, l23, l24, l25] (.int v :: st) H Q := w_x at_26 rfl
theorem m18_28 : M18 28 ls st H Q = M18 29 ls (.int 1 :: st) H Q := w_con at_28 rfl (by decide)
theorem m18_29 : M18 29 ls (.int y :: .int x :: st) H Q = M18 30 ls (.int (x &&& y) :: st) H Q := w_x at_29 rfl
theorem m18_30u : M18 30 [l0, l1, l2, l3, l4, l5, l6, l7, l8, l9, l10, .unset, l12, l13, l14, l15, l16, l17, l18, l19, l20, l21, l22, l23, l24, l25] ((.int v) :: st) H Q = M18 32 [l0, l1, l2, l3, l4, l5, l6, l7, l8, l9, l10, .val (.int v), l12, l13, l14, l15, l16, l17, l18, l19, l20, l21, l22, l23, l24, l25] st H Q := w_st (i := 11) (p := isI) at_30 rfl rfl rfl rfl rfl rfl
theorem m18_32 : M18 32 ls st H Q = M18 35 ls (.ref H.length :: st) (H ++ [(.object "SuffixAutomat", D0)]) Q := (w_new (C := "SuffixAutomat") at_32 (by rw [hNew, show rCls tables_1 y18.cls 7 = some "SuffixAutomat" from by decide +kernel]; dsimp only; rw [if_pos (by decide +kernel)])).trans (by rw [lay0]; rfl)
theorem m18_35 : M18 35 ls ((.ref r) :: st) H Q = M18 36 ls ((.ref r) :: (.ref r) :: st) H Q := w_x at_35 rfl
theorem m18_36 : M18 36 ls st H Q = M18 37 ls (.int 2 :: st) H Q := w_con at_36 rfl (by decide)
theorem m18_37 : M18 37 ls st H Q = M18 39 ls (.int 8 :: st) H Q := w_con at_37 rfl (by decide)
theorem cr18_9 : nR tables_1 dn y18 9 = some (y0, prog_1_method_1_code, 5, none, 2, 22) := nR_of (cR_of (by decide +kernel) rc_0 dn_0 dn_18 (sig := ⟨[.int, .int], none⟩) (by decide +kernel) (by decide +kernel) rfl rfl) rfl (by decide +kernel) rfl
theorem cr18_9_o : oR tables_1 dn y18 9 = none := by decide +kernel
theorem m18_39 (a0 : Int32) (a1 : Int32) (u0 : Nat) : M18 39 ls [.int a1, .int a0, .ref r, .ref u0] H Q = M0 0 [.val (.ref r), .val (.int a0), .val (.int a1), .unset, .unset] [] H (fun v H1 => M18 42 ls (v.toList ++ [.ref u0]) H1 Q) := w_spec (as := [.int a1, .int a0]) (rest := [.ref u0]) (a := r) at_39 cr18_9_o cr18_9 rfl (Nat.le_of_ble_eq_true rfl) (by show 3 ≤ 5; omega) rfl
theorem m18_42u : M18 42 [l0, l1, l2, l3, l4, l5, l6, l7, l8, l9, l10, l11, .unset, l13, l14, l15, l16, l17, l18, l19, l20, l21, l22, l23, l24, l25] ((.ref r) :: st) H Q = M18 44 [l0, l1, l2, l3, l4, l5, l6, l7, l8, l9, l10, l11, .val (.ref r), l13, l14, l15, l16, l17, l18, l19, l20, l21, l22, l23, l24, l25] st H Q := w_st (i := 12) (p := Value.isRef) at_42 rfl rfl rfl rfl rfl rfl
theorem m18_44 : M18 44 [l0, l1, l2, l3, l4, l5, l6, l7, l8, l9, l10, l11, .val (.ref r), l13, l14, l15, l16, l17, l18, l19, l20, l21, l22, l23, l24, l25] st H Q = M18 46 [l0, l1, l2, l3, l4, l5, l6, l7, l8, l9, l10, l11, .val (.ref r), l13, l14, l15, l16, l17, l18, l19, l20, l21, l22, l23, l24, l25] (.ref r :: st) H Q := w_x at_44 rfl
theorem m18_46 : M18 46 [l0, l1, l2, l3, l4, l5, .val (.int v), l7, l8, l9, l10, l11, l12, l13, l14, l15, l16, l17, l18, l19, l20, l21, l22, l23, l24, l25] st H Q = M18 48 [l0, l1, l2, l3, l4, l5, .val (.int v), l7, l8, l9, l10, l11, l12, l13, l14, l15, l16, l17, l18, l19, l20, l21, l22, l23, l24, l25] (.int v :: st) H Q := w_x at_46 rfl
theorem cr18_12 : vR tables_1 dn y18 12 = some (false, y3, prog_1_method_2_code, 2, (some .boolean), 1, 0) := vR_of (cR_of (by decide +kernel) rc_3 dn_3 dn_18 (sig := ⟨[.int], some .boolean⟩) (by decide +kernel) (by decide +kernel) rfl rfl) (by decide +kernel) (by decide +kernel) (by decide +kernel)
theorem m18_48 (a0 : Int32) : M18 48 ls [.int a0, .ref b] (put b pre s A post) Q = M3 0 [.val (.ref b), .val (.int a0)] [] (put b pre s A post) (fun v H1 => M18 51 ls (v.toList ++ []) H1 Q) := w_virt (as := [.int a0]) (rest := []) (a := b) at_48 cr18_12 put_o rfl rfl (Nat.le_of_ble_eq_true rfl) (by show 2 ≤ 2; omega) rfl
theorem m18_51 : M18 51 ls (.int x :: st) H Q = if x = 0 then M18 54 ls st H Q else M18 56 ls st H Q := w_ifN at_51 (z_ne x) rfl
theorem m18_54 : M18 54 ls st H Q = M18 55 ls (.int 0 :: st) H Q := w_con at_54 rfl (by decide)
theorem m18_55 : M18 55 ls (.int z :: st) H Q = Q (some (.int (nar .boolean z))) H := w_iretN at_55 rfl (by simp)
theorem m18_56 : M18 56 [l0, l1, l2, l3, l4, l5, l6, l7, l8, l9, l10, l11, .val (.ref r), l13, l14, l15, l16, l17, l18, l19, l20, l21, l22, l23, l24, l25] st H Q = M18 58 [l0, l1, l2, l3, l4, l5, l6, l7, l8, l9, l10, l11, .val (.ref r), l13, l14, l15, l16, l17, l18, l19, l20, l21, l22, l23, l24, l25] (.ref r :: st) H Q := w_x at_56 rfl
theorem m18_58 : M18 58 [l0, l1, l2, l3, l4, l5, l6, .val (.int v), l8, l9, l10, l11, l12, l13, l14, l15, l16, l17, l18, l19, l20, l21, l22, l23, l24, l25] st H Q = M18 60 [l0, l1, l2, l3, l4, l5, l6, .val (.int v), l8, l9, l10, l11, l12, l13, l14, l15, l16, l17, l18, l19, l20, l21, l22, l23, l24, l25] (.int v :: st) H Q := w_x at_58 rfl
theorem m18_60 (a0 : Int32) : M18 60 ls [.int a0, .ref b] (put b pre s A post) Q = M3 0 [.val (.ref b), .val (.int a0)] [] (put b pre s A post) (fun v H1 => M18 63 ls (v.toList ++ []) H1 Q) := w_virt (as := [.int a0]) (rest := []) (a := b) at_60 cr18_12 put_o rfl rfl (Nat.le_of_ble_eq_true rfl) (by show 2 ≤ 2; omega) rfl
theorem m18_63 : M18 63 ls (.int x :: st) H Q = if x = 0 then M18 66 ls st H Q else M18 68 ls st H Q := w_ifN at_63 (z_ne x) rfl
theorem m18_66 : M18 66 ls st H Q = M18 67 ls (.int 0 :: st) H Q := w_con at_66 rfl (by decide)
theorem m18_67 : M18 67 ls (.int z :: st) H Q = Q (some (.int (nar .boolean z))) H := w_iretN at_67 rfl (by simp)
theorem m18_68 : M18 68 [l0, l1, l2, l3, l4, l5, l6, l7, l8, l9, l10, l11, .val (.ref r), l13, l14, l15, l16, l17, l18, l19, l20, l21, l22, l23, l24, l25] st H Q = M18 70 [l0, l1, l2, l3, l4, l5, l6, l7, l8, l9, l10, l11, .val (.ref r), l13, l14, l15, l16, l17, l18, l19, l20, l21, l22, l23, l24, l25] (.ref r :: st) H Q := w_x at_68 rfl
theorem m18_70 : M18 70 [l0, l1, l2, l3, l4, l5, l6, l7, .val (.int v), l9, l10, l11, l12, l13, l14, l15, l16, l17, l18, l19, l20, l21, l22, l23, l24, l25] st H Q = M18 72 [l0, l1, l2, l3, l4, l5, l6, l7, .val (.int v), l9, l10, l11, l12, l13, l14, l15, l16, l17, l18, l19, l20, l21, l22, l23, l24, l25] (.int v :: st) H Q := w_x at_70 rfl
theorem m18_72 (a0 : Int32) : M18 72 ls [.int a0, .ref b] (put b pre s A post) Q = M3 0 [.val (.ref b), .val (.int a0)] [] (put b pre s A post) (fun v H1 => M18 75 ls (v.toList ++ []) H1 Q) := w_virt (as := [.int a0]) (rest := []) (a := b) at_72 cr18_12 put_o rfl rfl (Nat.le_of_ble_eq_true rfl) (by show 2 ≤ 2; omega) rfl
theorem m18_75 : M18 75 ls (.int x :: st) H Q = if x = 0 then M18 78 ls st H Q else M18 80 ls st H Q := w_ifN at_75 (z_ne x) rfl
theorem m18_78 : M18 78 ls st H Q = M18 79 ls (.int 0 :: st) H Q := w_con at_78 rfl (by decide)
theorem m18_79 : M18 79 ls (.int z :: st) H Q = Q (some (.int (nar .boolean z))) H := w_iretN at_79 rfl (by simp)
theorem m18_80 : M18 80 [l0, l1, l2, l3, l4, l5, l6, l7, l8, l9, l10, l11, .val (.ref r), l13, l14, l15, l16, l17, l18, l19, l20, l21, l22, l23, l24, l25] st H Q = M18 82 [l0, l1, l2, l3, l4, l5, l6, l7, l8, l9, l10, l11, .val (.ref r), l13, l14, l15, l16, l17, l18, l19, l20, l21, l22, l23, l24, l25] (.ref r :: st) H Q := w_x at_80 rfl
theorem m18_82 : M18 82 [l0, l1, l2, l3, l4, l5, l6, l7, l8, .val (.int v), l10, l11, l12, l13, l14, l15, l16, l17, l18, l19, l20, l21, l22, l23, l24, l25] st H Q = M18 84 [l0, l1, l2, l3, l4, l5, l6, l7, l8, .val (.int v), l10, l11, l12, l13, l14, l15, l16, l17, l18, l19, l20, l21, l22, l23, l24, l25] (.int v :: st) H Q := w_x at_82 rfl
theorem m18_84 (a0 : Int32) : M18 84 ls [.int a0, .ref b] (put b pre s A post) Q = M3 0 [.val (.ref b), .val (.int a0)] [] (put b pre s A post) (fun v H1 => M18 87 ls (v.toList ++ []) H1 Q) := w_virt (as := [.int a0]) (rest := []) (a := b) at_84 cr18_12 put_o rfl rfl (Nat.le_of_ble_eq_true rfl) (by show 2 ≤ 2; omega) rfl
theorem m18_87 : M18 87 ls (.int x :: st) H Q = if x = 0 then M18 90 ls st H Q else M18 92 ls st H Q := w_ifN at_87 (z_ne x) rfl
theorem m18_90 : M18 90 ls st H Q = M18 91 ls (.int 0 :: st) H Q := w_con at_90 rfl (by decide)
theorem m18_91 : M18 91 ls (.int z :: st) H Q = Q (some (.int (nar .boolean z))) H := w_iretN at_91 rfl (by simp)
theorem m18_92 : M18 92 [l0, l1, l2, l3, l4, l5, l6, l7, l8, l9, l10, l11, .val (.ref r), l13, l14, l15, l16, l17, l18, l19, l20, l21, l22, l23, l24, l25] st H Q = M18 94 [l0, l1, l2, l3, l4, l5, l6, l7, l8, l9, l10, l11, .val (.ref r), l13, l14, l15, l16, l17, l18, l19, l20, l21, l22, l23, l24, l25] (.ref r :: st) H Q := w_x at_92 rfl
theorem m18_94 : M18 94 [l0, l1, l2, l3, l4, l5, l6, l7, l8, l9, .val (.int v), l11, l12, l13, l14, l15, l16, l17, l18, l19, l20, l21, l22, l23, l24, l25] st H Q = M18 96 [l0, l1, l2, l3, l4, l5, l6, l7, l8, l9, .val (.int v), l11, l12, l13, l14, l15, l16, l17, l18, l19, l20, l21, l22, l23, l24, l25] (.int v :: st) H Q := w_x at_94 rfl
theorem cr18_16 : vR tables_1 dn y18 16 = some (false, y6, prog_1_method_6_code, 2, (some .boolean), 1, 52) := vR_of (cR_of (by decide +kernel) rc_6 dn_6 dn_18 (sig := ⟨[.int], some .boolean⟩) (by decide +kernel) (by decide +kernel) rfl rfl) (by decide +kernel) (by decide +kernel) (by decide +kernel)
theorem m18_96 (a0 : Int32) : M18 96 ls [.int a0, .ref b] (put b pre s A post) Q = M6 0 [.val (.ref b), .val (.int a0)] [] (put b pre s A post) (fun v H1 => M18 99 ls (v.toList ++ []) H1 Q) := w_virt (as := [.int a0]) (rest := []) (a := b) at_96 cr18_16 put_o rfl rfl (Nat.le_of_ble_eq_true rfl) (by show 2 ≤ 2; omega) rfl
theorem m18_99 : M18 99 ls (.int x :: st) H Q = if x = 0 then M18 102 ls st H Q else M18 104 ls st H Q := w_ifN at_99 (z_ne x) rfl
theorem m18_102 : M18 102 ls st H Q = M18 103 ls (.int 0 :: st) H Q := w_con at_102 rfl (by decide)
theorem m18_103 : M18 103 ls (.int z :: st) H Q = Q (some (.int (nar .boolean z))) H := w_iretN at_103 rfl (by simp)
theorem m18_104 : M18 104 [l0, l1, l2, l3, l4, l5, l6, l7, l8, l9, l10, l11, .val (.ref r), l13, l14, l15, l16, l17, l18, l19, l20, l21, l22, l23, l24, l25] st H Q = M18 106 [l0, l1, l2, l3, l4, l5, l6, l7, l8, l9, l10, l11, .val (.ref r), l13, l14, l15, l16, l17, l18, l19, l20, l21, l22, l23, l24, l25] (.ref r :: st) H Q := w_x at_104 rfl
theorem m18_106 : M18 106 [l0, l1, l2, l3, l4, l5, l6, l7, l8, l9, l10, .val (.int v), l12, l13, l14, l15, l16, l17, l18, l19, l20, l21, l22, l23, l24, l25] st H Q = M18 108 [l0, l1, l2, l3, l4, l5, l6, l7, l8, l9, l10, .val (.int v), l12, l13, l14, l15, l16, l17, l18, l19, l20, l21, l22, l23, l24, l25] (.int v :: st) H Q := w_x at_106 rfl
theorem m18_108 (a0 : Int32) : M18 108 ls [.int a0, .ref b] (put b pre s A post) Q = M6 0 [.val (.ref b), .val (.int a0)] [] (put b pre s A post) (fun v H1 => M18 111 ls (v.toList ++ []) H1 Q) := w_virt (as := [.int a0]) (rest := []) (a := b) at_108 cr18_16 put_o rfl rfl (Nat.le_of_ble_eq_true rfl) (by show 2 ≤ 2; omega) rfl
theorem m18_111 : M18 111 ls (.int x :: st) H Q = if x = 0 then M18 114 ls st H Q else M18 116 ls st H Q := w_ifN at_111 (z_ne x) rfl
theorem m18_114 : M18 114 ls st H Q = M18 115 ls (.int 0 :: st) H Q := w_con at_114 rfl (by decide)
theorem m18_115 : M18 115 ls (.int z :: st) H Q = Q (some (.int (nar .boolean z))) H := w_iretN at_115 rfl (by simp)
theorem m18_116 : M18 116 [l0, l1, l2, l3, l4, l5, l6, l7, l8, l9, l10, l11, .val (.ref r), l13, l14, l15, l16, l17, l18, l19, l20, l21, l22, l23, l24, l25] st H Q = M18 118 [l0, l1, l2, l3, l4, l5, l6, l7, l8, l9, l10, l11, .val (.ref r), l13, l14, l15, l16, l17, l18, l19, l20, l21, l22, l23, l24, l25] (.ref r :: st) H Q := w_x at_116 rfl
theorem cr18_19 : vR tables_1 dn y18 19 = some (false, y7, prog_1_method_3_code, 1, (some .int), 0, 53) := vR_of (cR_of (by decide +kernel) rc_7 dn_7 dn_18 (sig := ⟨[], some .int⟩) (by decide +kernel) (by decide +kernel) rfl rfl) (by decide +kernel) (by decide +kernel) (by decide +kernel)
theorem m18_118 : M18 118 ls [.ref b] (put b pre s A post) Q = M7 0 [.val (.ref b)] [] (put b pre s A post) (fun v H1 => M18 121 ls (v.toList ++ []) H1 Q) := w_virt (as := []) (rest := []) (a := b) at_118 cr18_19 put_o rfl rfl (Nat.le_of_ble_eq_true rfl) (by show 1 ≤ 1; omega) rfl
theorem m18_121 : M18 121 ls st H Q = M18 122 ls (.int 4 :: st) H Q := w_con at_121 rfl (by decide)
theorem m18_122 : M18 122 ls (.int y :: .int x :: st) H Q = if x = y then M18 125 ls st H Q else M18 134 ls st H Q := w_icmpN at_122 (i_ne x y) rfl
theorem m18_125 : M18 125 [l0, l1, l2, l3, l4, l5, l6, l7, l8, l9, l10, l11, .val (.ref r), l13, l14, l15, l16, l17, l18, l19, l20, l21, l22, l23, l24, l25] st H Q = M18 127 [l0, l1, l2, l3, l4, l5, l6, l7, l8, l9, l10, l11, .val (.ref r), l13, l14, l15, l16, l17, l18, l19, l20, l21, l22, l23, l24, l25] (.ref r :: st) H Q := w_x at_125 rfl
theorem cr18_23 : vR tables_1 dn y18 23 = some (false, y8, prog_1_method_7_code, 1, (some .int), 0, 53) := vR_of (cR_of (by decide +kernel) rc_8 dn_8 dn_18 (sig := ⟨[], some .int⟩) (by decide +kernel) (by decide +kernel) rfl rfl) (by decide +kernel) (by decide +kernel) (by decide +kernel)
theorem m18_127 : M18 127 ls [.ref b] (put b pre s A post) Q = M8 0 [.val (.ref b)] [] (put b pre s A post) (fun v H1 => M18 130 ls (v.toList ++ []) H1 Q) := w_virt (as := []) (rest := []) (a := b) at_127 cr18_23 put_o rfl rfl (Nat.le_of_ble_eq_true rfl) (by show 1 ≤ 1; omega) rfl
theorem m18_130 : M18 130 ls st H Q = M18 131 ls (.int 2 :: st) H Q := w_con at_130 rfl (by decide)
theorem m18_131 : M18 131 ls (.int y :: .int x :: st) H Q = if x = y then M18 136 ls st H Q else M18 134 ls st H Q := w_icmp at_131 (i_eq x y) rfl
theorem m18_134 : M18 134 ls st H Q = M18 135 ls (.int 0 :: st) H Q := w_con at_134 rfl (by decide)
theorem m18_135 : M18 135 ls (.int z :: st) H Q = Q (some (.int (nar .boolean z))) H := w_iretN at_135 rfl (by simp)
theorem m18_136 : M18 136 [l0, l1, l2, l3, l4, l5, .val (.int v), l7, l8, l9, l10, l11, l12, l13, l14, l15, l16, l17, l18, l19, l20, l21, l22, l23, l24, l25] st H Q = M18 138 [l0, l1, l2, l3, l4, l5, .val (.int v), l7, l8, l9, l10, l11, l12, l13, l14, l15, l16, l17, l18, l19, l20, l21, l22, l23, l24, l25] (.int v :: st) H Q := w_x at_136 rfl
theorem m18_138 : M18 138 [l0, l1, l2, l3, l4, l5, l6, l7, l8, l9, .val (.int v), l11, l12, l13, l14, l15, l16, l17, l18, l19, l20, l21, l22, l23, l24, l25] st H Q = M18 140 [l0, l1, l2, l3, l4, l5, l6, l7, l8, l9, .val (.int v), l11, l12, l13, l14, l15, l16, l17, l18, l19, l20, l21, l22, l23, l24, l25] (.int v :: st) H Q := w_x at_138 rfl
theorem m18_140 : M18 140 ls (.int y :: .int x :: st) H Q = if x = y then M18 143 ls st H Q else M18 154 ls st H Q := w_icmpN at_140 (i_ne x y) rfl
theorem m18_143 : M18 143 [l0, l1, l2, l3, l4, l5, l6, .val (.int v), l8, l9, l10, l11, l12, l13, l14, l15, l16, l17, l18, l19, l20, l21, l22, l23, l24, l25] st H Q = M18 145 [l0, l1, l2, l3, l4, l5, l6, .val (.int v), l8, l9, l10, l11, l12, l13, l14, l15, l16, l17, l18, l19, l20, l21, l22, l23, l24, l25] (.int v :: st) H Q := w_x at_143 rfl
theorem m18_145 : M18 145 [l0, l1, l2, l3, l4, l5, l6, l7, l8, l9, l10, .val (.int v), l12, l13, l14, l15, l16, l17, l18, l19, l20, l21, l22, l23, l24, l25] st H Q = M18 147 [l0, l1, l2, l3, l4, l5, l6, l7, l8, l9, l10, .val (.int v), l12, l13, l14, l15, l16, l17, l18, l19, l20, l21, l22, l23, l24, l25] (.int v :: st) H Q := w_x at_145 rfl
theorem m18_147 : M18 147 ls (.int y :: .int x :: st) H Q = if x = y then M18 150 ls st H Q else M18 154 ls st H Q := w_icmpN at_147 (i_ne x y) rfl
theorem m18_150 : M18 150 ls st H Q = M18 151 ls (.int 1 :: st) H Q := w_con at_150 rfl (by decide)
theorem m18_151 : M18 151 ls st H Q = M18 155 ls st H Q := w_x at_151 rfl
theorem m18_154 : M18 154 ls st H Q = M18 155 ls (.int 0 :: st) H Q := w_con at_154 rfl (by decide)
theorem m18_155u : M18 155 [l0, l1, l2, l3, l4, l5, l6, l7, l8, l9, l10, l11, l12, .unset, l14, l15, l16, l17, l18, l19, l20, l21, l22, l23, l24, l25] ((.int v) :: st) H Q = M18 157 [l0, l1, l2, l3, l4, l5, l6, l7, l8, l9, l10, l11, l12, .val (.int v), l14, l15, l16, l17, l18, l19, l20, l21, l22, l23, l24, l25] st H Q := w_st (i := 13) (p := isI) at_155 rfl rfl rfl rfl rfl rfl
theorem m18_157 : M18 157 [l0, l1, l2, l3, l4, l5, l6, .val (.int v), l8, l9, l10, l11, l12, l13, l14, l15, l16, l17, l18, l19, l20, l21, l22, l23, l24, l25] st H Q = M18 159 [l0, l1, l2, l3, l4, l5, l6, .val (.int v), l8, l9, l10, l11, l12, l13, l14, l15, l16, l17, l18, l19, l20, l21, l22, l23, l24, l25] (.int v :: st) H Q := w_x at_157 rfl
theorem m18_159 : M18 159 [l0, l1, l2, l3, l4, l5, l6, l7, l8, l9, .val (.int v), l11, l12, l13, l14, l15, l16, l17, l18, l19, l20, l21, l22, l23, l24, l25] st H Q = M18 161 [l0, l1, l2, l3, l4, l5, l6, l7, l8, l9, .val (.int v), l11, l12, l13, l14, l15, l16, l17, l18, l19, l20, l21, l22, l23, l24, l25] (.int v :: st) H Q := w_x at_159 rfl
theorem m18_161 : M18 161 ls (.int y :: .int x :: st) H Q = if x = y then M18 164 ls st H Q else M18 175 ls st H Q := w_icmpN at_161 (i_ne x y) rfl
theorem m18_164 : M18 164 [l0, l1, l2, l3, l4, l5, l6, l7, .val (.int v), l9, l10, l11, l12, l13, l14, l15, l16, l17, l18, l19, l20, l21, l22, l23, l24, l25] st H Q = M18 166 [l0, l1, l2, l3, l4, l5, l6, l7, .val (.int v), l9, l10, l11, l12, l13, l14, l15, l16, l17, l18, l19, l20, l21, l22, l23, l24, l25] (.int v :: st) H Q := w_x at_164 rfl
theorem m18_166 : M18 166 [l0, l1, l2, l3, l4, l5, l6, l7, l8, l9, l10, .val (.int v), l12, l13, l14, l15, l16, l17, l18, l19, l20, l21, l22, l23, l24, l25] st H Q = M18 168 [l0, l1, l2, l3, l4, l5, l6, l7, l8, l9, l10, .val (.int v), l12, l13, l14, l15, l16, l17, l18, l19, l20, l21, l22, l23, l24, l25] (.int v :: st) H Q := w_x at_166 rfl
theorem m18_168 : M18 168 ls (.int y :: .int x :: st) H Q = if x = y then M18 171 ls st H Q else M18 175 ls st H Q := w_icmpN at_168 (i_ne x y) rfl
theorem m18_171 : M18 171 ls st H Q = M18 172 ls (.int 1 :: st) H Q := w_con at_171 rfl (by decide)
theorem m18_172 : M18 172 ls st H Q = M18 176 ls st H Q := w_x at_172 rfl
theorem m18_175 : M18 175 ls st H Q = M18 176 ls (.int 0 :: st) H Q := w_con at_175 rfl (by decide)
theorem m18_176u : M18 176 [l0, l1, l2, l3, l4, l5, l6, l7, l8, l9, l10, l11, l12, l13, .unset, l15, l16, l17, l18, l19, l20, l21, l22, l23, l24, l25] ((.int v) :: st) H Q = M18 178 [l0, l1, l2, l3, l4, l5, l6, l7, l8, l9, l10, l11, l12, l13, .val (.int v), l15, l16, l17, l18, l19, l20, l21, l22, l23, l24, l25] st H Q := w_st (i := 14) (p := isI) at_176 rfl rfl rfl rfl rfl rfl
theorem m18_178 : M18 178 [l0, l1, l2, l3, l4, l5, l6, l7, .val (.int v), l9, l10, l11, l12, l13, l14, l15, l16, l17, l18, l19, l20, l21, l22, l23, l24, l25] st H Q = M18 180 [l0, l1, l2, l3, l4, l5, l6, l7, .val (.int v), l9, l10, l11, l12, l13, l14, l15, l16, l17, l18, l19, l20, l21, l22, l23, l24, l25] (.int v :: st) H Q := w_x at_178 rfl
theorem m18_180 : M18 180 [l0, l1, l2, l3, l4, l5, l6, l7, l8, l9, .val (.int v), l11, l12, l13, l14, l15, l16, l17, l18, l19, l20, l21, l22, l23, l24, l25] st H Q = M18 182 [l0, l1, l2, l3, l4, l5, l6, l7, l8, l9, .val (.int v), l11, l12, l13, l14, l15, l16, l17, l18, l19, l20, l21, l22, l23, l24, l25] (.int v :: st) H Q := w_x at_180 rfl
theorem m18_182 : M18 182 ls (.int y :: .int x :: st) H Q = if x = y then M18 185 ls st H Q else M18 196 ls st H Q := w_icmpN at_182 (i_ne x y) rfl
theorem m18_185 : M18 185 [l0, l1, l2, l3, l4, l5, l6, l7, l8, .val (.int v), l10, l11, l12, l13, l14, l15, l16, l17, l18, l19, l20, l21, l22, l23, l24, l25] st H Q = M18 187 [l0, l1, l2, l3, l4, l5, l6, l7, l8, .val (.int v), l10, l11, l12, l13, l14, l15, l16, l17, l18, l19, l20, l21, l22, l23, l24, l25] (.int v :: st) H Q := w_x at_185 rfl
theorem m18_187 : M18 187 [l0, l1, l2, l3, l4, l5, l6, l7, l8, l9, l10, .val (.int v), l12, l13, l14, l15, l16, l17, l18, l19, l20, l21, l22, l23, l24, l25] st H Q = M18 189 [l0, l1, l2, l3, l4, l5, l6, l7, l8, l9, l10, .val (.int v), l12, l13, l14, l15, l16, l17, l18, l19, l20, l21, l22, l23, l24, l25] (.int v :: st) H Q := w_x at_187 rfl
theorem m18_189 : M18 189 ls (.int y :: .int x :: st) H Q = if x = y then M18 192 ls st H Q else M18 196 ls st H Q := w_icmpN at_189 (i_ne x y) rfl
theorem m18_192 : M18 192 ls st H Q = M18 193 ls (.int 1 :: st) H Q := w_con at_192 rfl (by decide)
theorem m18_193 : M18 193 ls st H Q = M18 197 ls st H Q := w_x at_193 rfl
theorem m18_196 : M18 196 ls st H Q = M18 197 ls (.int 0 :: st) H Q := w_con at_196 rfl (by decide)
theorem m18_197u : M18 197 [l0, l1, l2, l3, l4, l5, l6, l7, l8, l9, l10, l11, l12, l13, l14, .unset, l16, l17, l18, l19, l20, l21, l22, l23, l24, l25] ((.int v) :: st) H Q = M18 199 [l0, l1, l2, l3, l4, l5, l6, l7, l8, l9, l10, l11, l12, l13, l14, .val (.int v), l16, l17, l18, l19, l20, l21, l22, l23, l24, l25] st H Q := w_st (i := 15) (p := isI) at_197 rfl rfl rfl rfl rfl rfl
theorem m18_199 : M18 199 [l0, l1, l2, l3, l4, l5, l6, l7, l8, l9, l10, l11, l12, .val (.int v), l14, l15, l16, l17, l18, l19, l20, l21, l22, l23, l24, l25] st H Q = M18 201 [l0, l1, l2, l3, l4, l5, l6, l7, l8, l9, l10, l11, l12, .val (.int v), l14, l15, l16, l17, l18, l19, l20, l21, l22, l23, l24, l25] (.int v :: st) H Q := w_x at_199 rfl
theorem m18_201 : M18 201 [l0, l1, l2, l3, l4, l5, l6, l7, l8, l9, l10, l11, l12, l13, .val (.int v), l15, l16, l17, l18, l19, l20, l21, l22, l23, l24, l25] st H Q = M18 203 [l0, l1, l2, l3, l4, l5, l6, l7, l8, l9, l10, l11, l12, l13, .val (.int v), l15, l16, l17, l18, l19, l20, l21, l22, l23, l24, l25] (.int v :: st) H Q := w_x at_201 rfl
theorem m18_203 : M18 203 ls (.int y :: .int x :: st) H Q = M18 204 ls (.int (x + y) :: st) H Q := w_x at_203 rfl
theorem m18_204 : M18 204 [l0, l1, l2, l3, l4, l5, l6, l7, l8, l9, l10, l11, l12, l13, l14, .val (.int v), l16, l17, l18, l19, l20, l21, l22, l23, l24, l25] st H Q = M18 206 [l0, l1, l2, l3, l4, l5, l6, l7, l8, l9, l10, l11, l12, l13, l14, .val (.int v), l16, l17, l18, l19, l20, l21, l22, l23, l24, l25] (.int v :: st) H Q := w_x at_204 rfl
theorem m18_206 : M18 206 ls (.int y :: .int x :: st) H Q = M18 207 ls (.int (x + y) :: st) H Q := w_x at_206 rfl
theorem m18_207u : M18 207 [l0, l1, l2, l3, l4, l5, l6, l7, l8, l9, l10, l11, l12, l13, l14, l15, .unset, l17, l18, l19, l20, l21, l22, l23, l24, l25] ((.int v) :: st) H Q = M18 209 [l0, l1, l2, l3, l4, l5, l6, l7, l8, l9, l10, l11, l12, l13, l14, l15, .val (.int v), l17, l18, l19, l20, l21, l22, l23, l24, l25] st H Q := w_st (i := 16) (p := isI) at_207 rfl rfl rfl rfl rfl rfl
theorem m18_209 : M18 209 [l0, l1, l2, l3, l4, l5, l6, l7, l8, l9, l10, l11, l12, .val (.int v), l14, l15, l16, l17, l18, l19, l20, l21, l22, l23, l24, l25] st H Q = M18 211 [l0, l1, l2, l3, l4, l5, l6, l7, l8, l9, l10, l11, l12, .val (.int v), l14, l15, l16, l17, l18, l19, l20, l21, l22, l23, l24, l25] (.int v :: st) H Q := w_x at_209 rfl
theorem m18_211 : M18 211 ls st H Q = M18 212 ls (.int 1 :: st) H Q := w_con at_211 rfl (by decide)
theorem m18_212 : M18 212 ls (.int y :: .int x :: st) H Q = if x = y then M18 215 ls st H Q else M18 219 ls st H Q := w_icmpN at_212 (i_ne x y) rfl
theorem m18_215 : M18 215 ls st H Q = M18 216 ls (.int 0 :: st) H Q := w_con at_215 rfl (by decide)
theorem m18_216 : M18 216 ls st H Q = M18 240 ls st H Q := w_x at_216 rfl
theorem m18_219 : M18 219 [l0, l1, l2, l3, l4, l5, l6, l7, l8, l9, l10, l11, l12, l13, .val (.int v), l15, l16, l17, l18, l19, l20, l21, l22, l23, l24, l25] st H Q = M18 221 [l0, l1, l2, l3, l4, l5, l6, l7, l8, l9, l10, l11, l12, l13, .val (.int v), l15, l16, l17, l18, l19, l20, l21, l22, l23, l24, l25] (.int v :: st) H Q := w_x at_219 rfl
theorem m18_221 : M18 221 ls st H Q = M18 222 ls (.int 1 :: st) H Q := w_con at_221 rfl (by decide)
theorem m18_222 : M18 222 ls (.int y :: .int x :: st) H Q = if x = y then M18 225 ls st H Q else M18 229 ls st H Q := w_icmpN at_222 (i_ne x y) rfl
theorem m18_225 : M18 225 ls st H Q = M18 226 ls (.int 1 :: st) H Q := w_con at_225 rfl (by decide)
theorem m18_226 : M18 226 ls st H Q = M18 240 ls st H Q := w_x at_226 rfl
theorem m18_229 : M18 229 [l0, l1, l2, l3, l4, l5, l6, l7, l8, l9, l10, l11, l12, l13, l14, .val (.int v), l16, l17, l18, l19, l20, l21, l22, l23, l24, l25] st H Q = M18 231 [l0, l1, l2, l3, l4, l5, l6, l7, l8, l9, l10, l11, l12, l13, l14, .val (.int v), l16, l17, l18, l19, l20, l21, l22, l23, l24, l25] (.int v :: st) H Q := w_x at_229 rfl
theorem m18_231 : M18 231 ls st H Q = M18 232 ls (.int 1 :: st) H Q := w_con at_231 rfl (by decide)
theorem m18_232 : M18 232 ls (.int y :: .int x :: st) H Q = if x = y then M18 235 ls st H Q else M18 239 ls st H Q := w_icmpN at_232 (i_ne x y) rfl
theorem m18_235 : M18 235 ls st H Q = M18 236 ls (.int 2 :: st) H Q := w_con at_235 rfl (by decide)
theorem m18_236 : M18 236 ls st H Q = M18 240 ls st H Q := w_x at_236 rfl
theorem m18_239 : M18 239 ls st H Q = M18 240 ls (.int (-1) :: st) H Q := w_con at_239 rfl (by decide)
theorem m18_240u : M18 240 [l0, l1, l2, l3, l4, l5, l6, l7, l8, l9, l10, l11, l12, l13, l14, l15, l16, .unset, l18, l19, l20, l21, l22, l23, l24, l25] ((.int v) :: st) H Q = M18 242 [l0, l1, l2, l3, l4, l5, l6, l7, l8, l9, l10, l11, l12, l13, l14, l15, l16, .val (.int v), l18, l19, l20, l21, l22, l23, l24, l25] st H Q := w_st (i := 17) (p := isI) at_240 rfl rfl rfl rfl rfl rfl
theorem m18_242 : M18 242 [l0, l1, l2, l3, l4, l5, l6, l7, l8, l9, l10, l11, .val (.ref r), l13, l14, l15, l16, l17, l18, l19, l20, l21, l22, l23, l24, l25] st H Q = M18 244 [l0, l1, l2, l3, l4, l5, l6, l7, l8, l9, l10, l11, .val (.ref r), l13, l14, l15, l16, l17, l18, l19, l20, l21, l22, l23, l24, l25] (.ref r :: st) H Q := w_x at_242 rfl
theorem cr18_26 : vR tables_1 dn y18 26 = some (false, y9, prog_1_method_8_code, 1, (some .boolean), 0, 37) := vR_of (cR_of (by decide +kernel) rc_9 dn_9 dn_18 (sig := ⟨[], some .boolean⟩) (by decide +kernel) (by decide +kernel) rfl rfl) (by decide +kernel) (by decide +kernel) (by decide +kernel)
theorem m18_244 : M18 244 ls [.ref b] (put b pre s A post) Q = M9 0 [.val (.ref b)] [] (put b pre s A post) (fun v H1 => M18 247 ls (v.toList ++ []) H1 Q) := w_virt (as := []) (rest := []) (a := b) at_244 cr18_26 put_o rfl rfl (Nat.le_of_ble_eq_true rfl) (by show 1 ≤ 1; omega) rfl
theorem m18_247 : M18 247 [l0, l1, l2, l3, l4, l5, l6, l7, l8, l9, l10, l11, l12, l13, l14, l15, .val (.int v), l17, l18, l19, l20, l21, l22, l23, l24, l25] st H Q = M18 249 [l0, l1, l2, l3, l4, l5, l6, l7, l8, l9, l10, l11, l12, l13, l14, l15, .val (.int v), l17, l18, l19, l20, l21, l22, l23, l24, l25] (.int v :: st) H Q := w_x at_247 rfl
theorem m18_249 : M18 249 ls (.int x :: st) H Q = if 0 < x then M18 252 ls st H Q else M18 256 ls st H Q := w_ifN at_249 (z_le x) rfl
theorem m18_252 : M18 252 ls st H Q = M18 253 ls (.int 1 :: st) H Q := w_con at_252 rfl (by decide)
theorem m18_253 : M18 253 ls st H Q = M18 257 ls st H Q := w_x at_253 rfl
theorem m18_256 : M18 256 ls st H Q = M18 257 ls (.int 0 :: st) H Q := w_con at_256 rfl (by decide)
theorem m18_257 : M18 257 ls (.int y :: .int x :: st) H Q = if x = y then M18 262 ls st H Q else M18 260 ls st H Q := w_icmp at_257 (i_eq x y) rfl
theorem m18_260 : M18 260 ls st H Q = M18 261 ls (.int 0 :: st) H Q := w_con at_260 rfl (by decide)
theorem m18_261 : M18 261 ls (.int z :: st) H Q = Q (some (.int (nar .boolean z))) H := w_iretN at_261 rfl (by simp)
theorem m18_262 : M18 262 [l0, l1, l2, l3, l4, l5, l6, l7, l8, l9, l10, l11, .val (.ref r), l13, l14, l15, l16, l17, l18, l19, l20, l21, l22, l23, l24, l25] st H Q = M18 264 [l0, l1, l2, l3, l4, l5, l6, l7, l8, l9, l10, l11, .val (.ref r), l13, l14, l15, l16, l17, l18, l19, l20, l21, l22, l23, l24, l25] (.ref r :: st) H Q := w_x at_262 rfl
theorem cr18_30 : vR tables_1 dn y18 30 = some (false, y11, prog_1_method_9_code, 2, (some .int), 0, 22) := vR_of (cR_of (by decide +kernel) rc_11 dn_11 dn_18 (sig := ⟨[], some .int⟩) (by decide +kernel) (by decide +kernel) rfl rfl) (by decide +kernel) (by decide +kernel) (by decide +kernel)
theorem m18_264 : M18 264 ls [.ref b] (put b pre s A post) Q = M11 0 [.val (.ref b), .unset] [] (put b pre s A post) (fun v H1 => M18 267 ls (v.toList ++ []) H1 Q) := w_virt (as := []) (rest := []) (a := b) at_264 cr18_30 put_o rfl rfl (Nat.le_of_ble_eq_true rfl) (by show 1 ≤ 2; omega) rfl
theorem m18_267 : M18 267 [l0, l1, l2, l3, l4, l5, l6, l7, l8, l9, l10, l11, l12, l13, l14, l15, .val (.int v), l17, l18, l19, l20, l21, l22, l23, l24, l25] st H Q = M18 269 [l0, l1, l2, l3, l4, l5, l6, l7, l8, l9, l10, l11, l12, l13, l14, l15, .val (.int v), l17, l18, l19, l20, l21, l22, l23, l24, l25] (.int v :: st) H Q := w_x at_267 rfl
theorem m18_269 : M18 269 ls (.int y :: .int x :: st) H Q = if x = y then M18 274 ls st H Q else M18 272 ls st H Q := w_icmp at_269 (i_eq x y) rfl
theorem m18_272 : M18 272 ls st H Q = M18 273 ls (.int 0 :: st) H Q := w_con at_272 rfl (by decide)
theorem m18_273 : M18 273 ls (.int z :: st) H Q = Q (some (.int (nar .boolean z))) H := w_iretN at_273 rfl (by simp)
theorem m18_274 : M18 274 [l0, l1, l2, l3, l4, l5, l6, l7, l8, l9, l10, l11, .val (.ref r), l13, l14, l15, l16, l17, l18, l19, l20, l21, l22, l23, l24, l25] st H Q = M18 276 [l0, l1, l2, l3, l4, l5, l6, l7, l8, l9, l10, l11, .val (.ref r), l13, l14, l15, l16, l17, l18, l19, l20, l21, l22, l23, l24, l25] (.ref r :: st) H Q := w_x at_274 rfl
theorem cr18_33 : vR tables_1 dn y18 33 = some (false, y14, prog_1_method_10_code, 2, (some .int), 0, 36) := vR_of (cR_of (by decide +kernel) rc_14 dn_14 dn_18 (sig := ⟨[], some .int⟩) (by decide +kernel) (by decide +kernel) rfl rfl) (by decide +kernel) (by decide +kernel) (by decide +kernel)
theorem m18_276 : M18 276 ls [.ref b] (put b pre s A post) Q = M14 0 [.val (.ref b), .unset] [] (put b pre s A post) (fun v H1 => M18 279 ls (v.toList ++ []) H1 Q) := w_virt (as := []) (rest := []) (a := b) at_276 cr18_33 put_o rfl rfl (Nat.le_of_ble_eq_true rfl) (by show 1 ≤ 2; omega) rfl
theorem m18_279 : M18 279 [l0, l1, l2, l3, l4, l5, l6, l7, l8, l9, l10, l11, l12, l13, l14, l15, l16, .val (.int v), l18, l19, l20, l21, l22, l23, l24, l25] st H Q = M18 281 [l0, l1, l2, l3, l4, l5, l6, l7, l8, l9, l10, l11, l12, l13, l14, l15, l16, .val (.int v), l18, l19, l20, l21, l22, l23, l24, l25] (.int v :: st) H Q := w_x at_279 rfl
theorem m18_281 : M18 281 ls (.int y :: .int x :: st) H Q = if x = y then M18 286 ls st H Q else M18 284 ls st H Q := w_icmp at_281 (i_eq x y) rfl
theorem m18_284 : M18 284 ls st H Q = M18 285 ls (.int 0 :: st) H Q := w_con at_284 rfl (by decide)
theorem m18_285 : M18 285 ls (.int z :: st) H Q = Q (some (.int (nar .boolean z))) H := w_iretN at_285 rfl (by simp)
theorem m18_286 : M18 286 [l0, l1, l2, l3, l4, l5, .val (.int v), l7, l8, l9, l10, l11, l12, l13, l14, l15, l16, l17, l18, l19, l20, l21, l22, l23, l24, l25] st H Q = M18 288 [l0, l1, l2, l3, l4, l5, .val (.int v), l7, l8, l9, l10, l11, l12, l13, l14, l15, l16, l17, l18, l19, l20, l21, l22, l23, l24, l25] (.int v :: st) H Q := w_x at_286 rfl
theorem m18_288 : M18 288 [l0, l1, l2, l3, l4, l5, l6, .val (.int v), l8, l9, l10, l11, l12, l13, l14, l15, l16, l17, l18, l19, l20, l21, l22, l23, l24, l25] st H Q = M18 290 [l0, l1, l2, l3, l4, l5, l6, .val (.int v), l8, l9, l10, l11, l12, l13, l14, l15, l16, l17, l18, l19, l20, l21, l22, l23, l24, l25] (.int v :: st) H Q := w_x at_288 rfl
theorem m18_290 : M18 290 ls (.int y :: .int x :: st) H Q = if x = y then M18 293 ls st H Q else M18 311 ls st H Q := w_icmpN at_290 (i_ne x y) rfl
theorem m18_293 : M18 293 [l0, l1, l2, l3, l4, l5, l6, .val (.int v), l8, l9, l10, l11, l12, l13, l14, l15, l16, l17, l18, l19, l20, l21, l22, l23, l24, l25] st H Q = M18 295 [l0, l1, l2, l3, l4, l5, l6, .val (.int v), l8, l9, l10, l11, l12, l13, l14, l15, l16, l17, l18, l19, l20, l21, l22, l23, l24, l25] (.int v :: st) H Q := w_x at_293 rfl
theorem m18_295 : M18 295 [l0, l1, l2, l3, l4, l5, l6, l7, .val (.int v), l9, l10, l11, l12, l13, l14, l15, l16, l17, l18, l19, l20, l21, l22, l23, l24, l25] st H Q = M18 297 [l0, l1, l2, l3, l4, l5, l6, l7, .val (.int v), l9, l10, l11, l12, l13, l14, l15, l16, l17, l18, l19, l20, l21, l22, l23, l24, l25] (.int v :: st) H Q := w_x at_295 rfl
theorem m18_297 : M18 297 ls (.int y :: .int x :: st) H Q = if x = y then M18 300 ls st H Q else M18 311 ls st H Q := w_icmpN at_297 (i_ne x y) rfl
theorem m18_300 : M18 300 [l0, l1, l2, l3, l4, l5, l6, l7, .val (.int v), l9, l10, l11, l12, l13, l14, l15, l16, l17, l18, l19, l20, l21, l22, l23, l24, l25] st H Q = M18 302 [l0, l1, l2, l3, l4, l5, l6, l7, .val (.int v), l9, l10, l11, l12, l13, l14, l15, l16, l17, l18, l19, l20, l21, l22, l23, l24, l25] (.int v :: st) H Q := w_x at_300 rfl
theorem m18_302 : M18 302 [l0, l1, l2, l3, l4, l5, l6, l7, l8, .val (.int v), l10, l11, l12, l13, l14, l15, l16, l17, l18, l19, l20, l21, l22, l23, l24, l25] st H Q = M18 304 [l0, l1, l2, l3, l4, l5, l6, l7, l8, .val (.int v), l10, l11, l12, l13, l14, l15, l16, l17, l18, l19, l20, l21, l22, l23, l24, l25] (.int v :: st) H Q := w_x at_302 rfl
theorem m18_304 : M18 304 ls (.int y :: .int x :: st) H Q = if x = y then M18 307 ls st H Q else M18 311 ls st H Q := w_icmpN at_304 (i_ne x y) rfl
theorem m18_307 : M18 307 ls st H Q = M18 308 ls (.int 1 :: st) H Q := w_con at_307 rfl (by decide)
theorem m18_308 : M18 308 ls st H Q = M18 312 ls st H Q := w_x at_308 rfl
theorem m18_311 : M18 311 ls st H Q = M18 312 ls (.int 2 :: st) H Q := w_con at_311 rfl (by decide)
theorem m18_312u : M18 312 [l0, l1, l2, l3, l4, l5, l6, l7, l8, l9, l10, l11, l12, l13, l14, l15, l16, l17, .unset, l19, l20, l21, l22, l23, l24, l25] ((.int v) :: st) H Q = M18 314 [l0, l1, l2, l3, l4, l5, l6, l7, l8, l9, l10, l11, l12, l13, l14, l15, l16, l17, .val (.int v), l19, l20, l21, l22, l23, l24, l25] st H Q := w_st (i := 18) (p := isI) at_312 rfl rfl rfl rfl rfl rfl
theorem m18_314 : M18 314 ls st H Q = M18 315 ls (.int 2 :: st) H Q := w_con at_314 rfl (by decide)
theorem m18_315 : M18 315 [l0, l1, l2, l3, l4, l5, .val (.int v), l7, l8, l9, l10, l11, l12, l13, l14, l15, l16, l17, l18, l19, l20, l21, l22, l23, l24, l25] st H Q = M18 317 [l0, l1, l2, l3, l4, l5, .val (.int v), l7, l8, l9, l10, l11, l12, l13, l14, l15, l16, l17, l18, l19, l20, l21, l22, l23, l24, l25] (.int v :: st) H Q := w_x at_315 rfl
theorem m18_317 : M18 317 ls (.int y :: .int x :: st) H Q = M18 318 ls (.int (x * y) :: st) H Q := w_x at_317 rfl
theorem m18_318 : M18 318 [l0, l1, l2, l3, l4, l5, l6, .val (.int v), l8, l9, l10, l11, l12, l13, l14, l15, l16, l17, l18, l19, l20, l21, l22, l23, l24, l25] st H Q = M18 320 [l0, l1, l2, l3, l4, l5, l6, .val (.int v), l8, l9, l10, l11, l12, l13, l14, l15, l16, l17, l18, l19, l20, l21, l22, l23, l24, l25] (.int v :: st) H Q := w_x at_318 rfl
theorem m18_320 : M18 320 ls (.int y :: .int x :: st) H Q = M18 321 ls (.int (x + y) :: st) H Q := w_x at_320 rfl
theorem m18_321u : M18 321 [l0, l1, l2, l3, l4, l5, l6, l7, l8, l9, l10, l11, l12, l13, l14, l15, l16, l17, l18, .unset, l20, l21, l22, l23, l24, l25] ((.int v) :: st) H Q = M18 323 [l0, l1, l2, l3, l4, l5, l6, l7, l8, l9, l10, l11, l12, l13, l14, l15, l16, l17, l18, .val (.int v), l20, l21, l22, l23, l24, l25] st H Q := w_st (i := 19) (p := isI) at_321 rfl rfl rfl rfl rfl rfl
theorem m18_323 : M18 323 ls st H Q = M18 324 ls (.int 2 :: st) H Q := w_con at_323 rfl (by decide)
theorem m18_324 : M18 324 [l0, l1, l2, l3, l4, l5, l6, .val (.int v), l8, l9, l10, l11, l12, l13, l14, l15, l16, l17, l18, l19, l20, l21, l22, l23, l24, l25] st H Q = M18 326 [l0, l1, l2, l3, l4, l5, l6, .val (.int v), l8, l9, l10, l11, l12, l13, l14, l15, l16, l17, l18, l19, l20, l21, l22, l23, l24, l25] (.int v :: st) H Q := w_x at_324 rfl
theorem m18_326 : M18 326 ls (.int y :: .int x :: st) H Q = M18 327 ls (.int (x * y) :: st) H Q := w_x at_326 rfl
theorem m18_327 : M18 327 [l0, l1, l2, l3, l4, l5, l6, l7, .val (.int v), l9, l10, l11, l12, l13, l14, l15, l16, l17, l18, l19, l20, l21, l22, l23, l24, l25] st H Q = M18 329 [l0, l1, l2, l3, l4, l5, l6, l7, .val (.int v), l9, l10, l11, l12, l13, l14, l15, l16, l17, l18, l19, l20, l21, l22, l23, l24, l25] (.int v :: st) H Q := w_x at_327 rfl
theorem m18_329 : M18 329 ls (.int y :: .int x :: st) H Q = M18 330 ls (.int (x + y) :: st) H Q := w_x at_329 rfl
theorem m18_330u : M18 330 [l0, l1, l2, l3, l4, l5, l6, l7, l8, l9, l10, l11, l12, l13, l14, l15, l16, l17, l18, l19, .unset, l21, l22, l23, l24, l25] ((.int v) :: st) H Q = M18 332 [l0, l1, l2, l3, l4, l5, l6, l7, l8, l9, l10, l11, l12, l13, l14, l15, l16, l17, l18, l19, .val (.int v), l21, l22, l23, l24, l25] st H Q := w_st (i := 20) (p := isI) at_330 rfl rfl rfl rfl rfl rfl
theorem m18_332 : M18 332 ls st H Q = M18 333 ls (.int 2 :: st) H Q := w_con at_332 rfl (by decide)
theorem m18_333 : M18 333 [l0, l1, l2, l3, l4, l5, l6, l7, .val (.int v), l9, l10, l11, l12, l13, l14, l15, l16, l17, l18, l19, l20, l21, l22, l23, l24, l25] st H Q = M18 335 [l0, l1, l2, l3, l4, l5, l6, l7, .val (.int v), l9, l10, l11, l12, l13, l14, l15, l16, l17, l18, l19, l20, l21, l22, l23, l24, l25] (.int v :: st) H Q := w_x at_333 rfl
theorem m18_335 : M18 335 ls (.int y :: .int x :: st) H Q = M18 336 ls (.int (x * y) :: st) H Q := w_x at_335 rfl
theorem m18_336 : M18 336 [l0, l1, l2, l3, l4, l5, l6, l7, l8, .val (.int v), l10, l11, l12, l13, l14, l15, l16, l17, l18, l19, l20, l21, l22, l23, l24, l25] st H Q = M18 338 [l0, l1, l2, l3, l4, l5, l6, l7, l8, .val (.int v), l10, l11, l12, l13, l14, l15, l16, l17, l18, l19, l20, l21, l22, l23, l24, l25] (.int v :: st) H Q := w_x at_336 rfl
theorem m18_338 : M18 338 ls (.int y :: .int x :: st) H Q = M18 339 ls (.int (x + y) :: st) H Q := w_x at_338 rfl
theorem m18_339u : M18 339 [l0, l1, l2, l3, l4, l5, l6, l7, l8, l9, l10, l11, l12, l13, l14, l15, l16, l17, l18, l19, l20, .unset, l22, l23, l24, l25] ((.int v) :: st) H Q = M18 341 [l0, l1, l2, l3, l4, l5, l6, l7, l8, l9, l10, l11, l12, l13, l14, l15, l16, l17, l18, l19, l20, .val (.int v), l22, l23, l24, l25] st H Q := w_st (i := 21) (p := isI) at_339 rfl rfl rfl rfl rfl rfl
theorem m18_341 : M18 341 ls st H Q = M18 342 ls (.int 1 :: st) H Q := w_con at_341 rfl (by decide)
theorem m18_342 : M18 342 [l0, l1, l2, l3, l4, l5, l6, l7, l8, l9, l10, l11, l12, l13, l14, l15, l16, l17, l18, l19, .val (.int v), l21, l22, l23, l24, l25] st H Q = M18 344 [l0, l1, l2, l3, l4, l5, l6, l7, l8, l9, l10, l11, l12, l13, l14, l15, l16, l17, l18, l19, .val (.int v), l21, l22, l23, l24, l25] (.int v :: st) H Q := w_x at_342 rfl
theorem m18_344 : M18 344 [l0, l1, l2, l3, l4, l5, l6, l7, l8, l9, l10, l11, l12, l13, l14, l15, l16, l17, l18, .val (.int v), l20, l21, l22, l23, l24, l25] st H Q = M18 346 [l0, l1, l2, l3, l4, l5, l6, l7, l8, l9, l10, l11, l12, l13, l14, l15, l16, l17, l18, .val (.int v), l20, l21, l22, l23, l24, l25] (.int v :: st) H Q := w_x at_344 rfl
theorem m18_346 : M18 346 ls (.int y :: .int x :: st) H Q = if x = y then M18 353 ls st H Q else M18 349 ls st H Q := w_icmp at_346 (i_eq x y) rfl
theorem m18_349 : M18 349 ls st H Q = M18 350 ls (.int 1 :: st) H Q := w_con at_349 rfl (by decide)
theorem m18_350 : M18 350 ls st H Q = M18 354 ls st H Q := w_x at_350 rfl
theorem m18_353 : M18 353 ls st H Q = M18 354 ls (.int 0 :: st) H Q := w_con at_353 rfl (by decide)
theorem m18_354 : M18 354 ls (.int y :: .int x :: st) H Q = M18 355 ls (.int (x + y) :: st) H Q := w_x at_354 rfl
theorem m18_355 : M18 355 [l0, l1, l2, l3, l4, l5, l6, l7, l8, l9, l10, l11, l12, l13, l14, l15, l16, l17, l18, l19, l20, .val (.int v), l22, l23, l24, l25] st H Q = M18 357 [l0, l1, l2, l3, l4, l5, l6, l7, l8, l9, l10, l11, l12, l13, l14, l15, l16, l17, l18, l19, l20, .val (.int v), l22, l23, l24, l25] (.int v :: st) H Q := w_x at_355 rfl
theorem m18_357 : M18 357 [l0, l1, l2, l3, l4, l5, l6, l7, l8, l9, l10, l11, l12, l13, l14, l15, l16, l17, l18, .val (.int v), l20, l21, l22, l23, l24, l25] st H Q = M18 359 [l0, l1, l2, l3, l4, l5, l6, l7, l8, l9, l10, l11, l12, l13, l14, l15, l16, l17, l18, .val (.int v), l20, l21, l22, l23, l24, l25] (.int v :: st) H Q := w_x at_357 rfl
theorem m18_359 : M18 359 ls (.int y :: .int x :: st) H Q = if x = y then M18 373 ls st H Q else M18 362 ls st H Q := w_icmp at_359 (i_eq x y) rfl
theorem m18_362 : M18 362 [l0, l1, l2, l3, l4, l5, l6, l7, l8, l9, l10, l11, l12, l13, l14, l15, l16, l17, l18, l19, l20, .val (.int v), l22, l23, l24, l25] st H Q = M18 364 [l0, l1, l2, l3, l4, l5, l6, l7, l8, l9, l10, l11, l12, l13, l14, l15, l16, l17, l18, l19, l20, .val (.int v), l22, l23, l24, l25] (.int v :: st) H Q := w_x at_362 rfl
theorem m18_364 : M18 364 [l0, l1, l2, l3, l4, l5, l6, l7, l8, l9, l10, l11, l12, l13, l14, l15, l16, l17, l18, l19, .val (.int v), l21, l22, l23, l24, l25] st H Q = M18 366 [l0, l1, l2, l3, l4, l5, l6, l7, l8, l9, l10, l11, l12, l13, l14, l15, l16, l17, l18, l19, .val (.int v), l21, l22, l23, l24, l25] (.int v :: st) H Q := w_x at_364 rfl
theorem m18_366 : M18 366 ls (.int y :: .int x :: st) H Q = if x = y then M18 373 ls st H Q else M18 369 ls st H Q := w_icmp at_366 (i_eq x y) rfl
theorem m18_369 : M18 369 ls st H Q = M18 370 ls (.int 1 :: st) H Q := w_con at_369 rfl (by decide)
theorem m18_370 : M18 370 ls st H Q = M18 374 ls st H Q := w_x at_370 rfl
theorem m18_373 : M18 373 ls st H Q = M18 374 ls (.int 0 :: st) H Q := w_con at_373 rfl (by decide)
theorem m18_374 : M18 374 ls (.int y :: .int x :: st) H Q = M18 375 ls (.int (x + y) :: st) H Q := w_x at_374 rfl
theorem m18_375u : M18 375 [l0, l1, l2, l3, l4, l5, l6, l7, l8, l9, l10, l11, l12, l13, l14, l15, l16, l17, l18, l19, l20, l21, .unset, l23, l24, l25] ((.int v) :: st) H Q = M18 377 [l0, l1, l2, l3, l4, l5, l6, l7, l8, l9, l10, l11, l12, l13, l14, l15, l16, l17, l18, l19, l20, l21, .val (.int v), l23, l24, l25] st H Q := w_st (i := 22) (p := isI) at_375 rfl rfl rfl rfl rfl rfl
theorem m18_377 : M18 377 ls st H Q = M18 378 ls (.int 4 :: st) H Q := w_con at_377 rfl (by decide)
theorem m18_378 : M18 378 [l0, l1, l2, l3, l4, l5, .val (.int v), l7, l8, l9, l10, l11, l12, l13, l14, l15, l16, l17, l18, l19, l20, l21, l22, l23, l24, l25] st H Q = M18 380 [l0, l1, l2, l3, l4, l5, .val (.int v), l7, l8, l9, l10, l11, l12, l13, l14, l15, l16, l17, l18, l19, l20, l21, l22, l23, l24, l25] (.int v :: st) H Q := w_x at_378 rfl
theorem m18_380 : M18 380 ls (.int y :: .int x :: st) H Q = M18 381 ls (.int (x * y) :: st) H Q := w_x at_380 rfl
theorem m18_381 : M18 381 ls st H Q = M18 382 ls (.int 2 :: st) H Q := w_con at_381 rfl (by decide)
theorem m18_382 : M18 382 [l0, l1, l2, l3, l4, l5, l6, .val (.int v), l8, l9, l10, l11, l12, l13, l14, l15, l16, l17, l18, l19, l20, l21, l22, l23, l24, l25] st H Q = M18 384 [l0, l1, l2, l3, l4, l5, l6, .val (.int v), l8, l9, l10, l11, l12, l13, l14, l15, l16, l17, l18, l19, l20, l21, l22, l23, l24, l25] (.int v :: st) H Q := w_x at_382 rfl
theorem m18_384 : M18 384 ls (.int y :: .int x :: st) H Q = M18 385 ls (.int (x * y) :: st) H Q := w_x at_384 rfl
theorem m18_385 : M18 385 ls (.int y :: .int x :: st) H Q = M18 386 ls (.int (x + y) :: st) H Q := w_x at_385 rfl
theorem m18_386 : M18 386 [l0, l1, l2, l3, l4, l5, l6, l7, .val (.int v), l9, l10, l11, l12, l13, l14, l15, l16, l17, l18, l19, l20, l21, l22, l23, l24, l25] st H Q = M18 388 [l0, l1, l2, l3, l4, l5, l6, l7, .val (.int v), l9, l10, l11, l12, l13, l14, l15, l16, l17, l18, l19, l20, l21, l22, l23, l24, l25] (.int v :: st) H Q := w_x at_386 rfl
theorem m18_388 : M18 388 ls (.int y :: .int x :: st) H Q = M18 389 ls (.int (x + y) :: st) H Q := w_x at_388 rfl
theorem m18_389u : M18 389 [l0, l1, l2, l3, l4, l5, l6, l7, l8, l9, l10, l11, l12, l13, l14, l15, l16, l17, l18, l19, l20, l21, l22, .unset, l24, l25] ((.int v) :: st) H Q = M18 391 [l0, l1, l2, l3, l4, l5, l6, l7, l8, l9, l10, l11, l12, l13, l14, l15, l16, l17, l18, l19, l20, l21, l22, .val (.int v), l24, l25] st H Q := w_st (i := 23) (p := isI) at_389 rfl rfl rfl rfl rfl rfl
theorem m18_391 : M18 391 ls st H Q = M18 392 ls (.int 4 :: st) H Q := w_con at_391 rfl (by decide)
theorem m18_392 : M18 392 [l0, l1, l2, l3, l4, l5, l6, .val (.int v), l8, l9, l10, l11, l12, l13, l14, l15, l16, l17, l18, l19, l20, l21, l22, l23, l24, l25] st H Q = M18 394 [l0, l1, l2, l3, l4, l5, l6, .val (.int v), l8, l9, l10, l11, l12, l13, l14, l15, l16, l17, l18, l19, l20, l21, l22, l23, l24, l25] (.int v :: st) H Q := w_x at_392 rfl
theorem m18_394 : M18 394 ls (.int y :: .int x :: st) H Q = M18 395 ls (.int (x * y) :: st) H Q := w_x at_394 rfl
theorem m18_395 : M18 395 ls st H Q = M18 396 ls (.int 2 :: st) H Q := w_con at_395 rfl (by decide)
theorem m18_396 : M18 396 [l0, l1, l2, l3, l4, l5, l6, l7, .val (.int v), l9, l10, l11, l12, l13, l14, l15, l16, l17, l18, l19, l20, l21, l22, l23, l24, l25] st H Q = M18 398 [l0, l1, l2, l3, l4, l5, l6, l7, .val (.int v), l9, l10, l11, l12, l13, l14, l15, l16, l17, l18, l19, l20, l21, l22, l23, l24, l25] (.int v :: st) H Q := w_x at_396 rfl
theorem m18_398 : M18 398 ls (.int y :: .int x :: st) H Q = M18 399 ls (.int (x * y) :: st) H Q := w_x at_398 rfl
theorem m18_399 : M18 399 ls (.int y :: .int x :: st) H Q = M18 400 ls (.int (x + y) :: st) H Q := w_x at_399 rfl
theorem m18_400 : M18 400 [l0, l1, l2, l3, l4, l5, l6, l7, l8, .val (.int v), l10, l11, l12, l13, l14, l15, l16, l17, l18, l19, l20, l21, l22, l23, l24, l25] st H Q = M18 402 [l0, l1, l2, l3, l4, l5, l6, l7, l8, .val (.int v), l10, l11, l12, l13, l14, l15, l16, l17, l18, l19, l20, l21, l22, l23, l24, l25] (.int v :: st) H Q := w_x at_400 rfl
theorem m18_402 : M18 402 ls (.int y :: .int x :: st) H Q = M18 403 ls (.int (x + y) :: st) H Q := w_x at_402 rfl
theorem m18_403u : M18 403 [l0, l1, l2, l3, l4, l5, l6, l7, l8, l9, l10, l11, l12, l13, l14, l15, l16, l17, l18, l19, l20, l21, l22, l23, .unset, l25] ((.int v) :: st) H Q = M18 405 [l0, l1, l2, l3, l4, l5, l6, l7, l8, l9, l10, l11, l12, l13, l14, l15, l16, l17, l18, l19, l20, l21, l22, l23, .val (.int v), l25] st H Q := w_st (i := 24) (p := isI) at_403 rfl rfl rfl rfl rfl rfl
theorem m18_405 : M18 405 [l0, l1, l2, l3, l4, l5, l6, l7, l8, l9, l10, l11, l12, l13, l14, l15, l16, l17, l18, l19, l20, l21, l22, .val (.int v), l24, l25] st H Q = M18 407 [l0, l1, l2, l3, l4, l5, l6, l7, l8, l9, l10, l11, l12, l13, l14, l15, l16, l17, l18, l19, l20, l21, l22, .val (.int v), l24, l25] (.int v :: st) H Q := w_x at_405 rfl
theorem m18_407 : M18 407 [l0, l1, l2, l3, l4, l5, l6, l7, l8, l9, l10, l11, l12, l13, l14, l15, l16, l17, l18, l19, l20, l21, l22, l23, .val (.int v), l25] st H Q = M18 409 [l0, l1, l2, l3, l4, l5, l6, l7, l8, l9, l10, l11, l12, l13, l14, l15, l16, l17, l18, l19, l20, l21, l22, l23, .val (.int v), l25] (.int v :: st) H Q := w_x at_407 rfl
theorem m18_409 : M18 409 ls (.int y :: .int x :: st) H Q = if x = y then M18 412 ls st H Q else M18 416 ls st H Q := w_icmpN at_409 (i_ne x y) rfl
theorem m18_412 : M18 412 ls st H Q = M18 413 ls (.int 1 :: st) H Q := w_con at_412 rfl (by decide)
theorem m18_413 : M18 413 ls st H Q = M18 417 ls st H Q := w_x at_413 rfl
theorem m18_416 : M18 416 ls st H Q = M18 417 ls (.int 2 :: st) H Q := w_con at_416 rfl (by decide)
theorem m18_417u : M18 417 [l0, l1, l2, l3, l4, l5, l6, l7, l8, l9, l10, l11, l12, l13, l14, l15, l16, l17, l18, l19, l20, l21, l22, l23, l24, .unset] ((.int v) :: st) H Q = M18 419 [l0, l1, l2, l3, l4, l5, l6, l7, l8, l9, l10, l11, l12, l13, l14, l15, l16, l17, l18, l19, l20, l21, l22, l23, l24, .val (.int v)] st H Q := w_st (i := 25) (p := isI) at_417 rfl rfl rfl rfl rfl rfl
theorem m18_419 : M18 419 [l0, l1, l2, l3, l4, l5, l6, l7, l8, l9, l10, l11, .val (.ref r), l13, l14, l15, l16, l17, l18, l19, l20, l21, l22, l23, l24, l25] st H Q = M18 421 [l0, l1, l2, l3, l4, l5, l6, l7, l8, l9, l10, l11, .val (.ref r), l13, l14, l15, l16, l17, l18, l19, l20, l21, l22, l23, l24, l25] (.ref r :: st) H Q := w_x at_419 rfl
theorem m18_421 : M18 421 ls st H Q = M18 422 ls (.int 0 :: st) H Q := w_con at_421 rfl (by decide)
theorem cr18_36 : vR tables_1 dn y18 36 = some (false, y15, prog_1_method_12_code, 5, (some .int), 1, 49) := vR_of (cR_of (by decide +kernel) rc_15 dn_15 dn_18 (sig := ⟨[.int], some .int⟩) (by decide +kernel) (by decide +kernel) rfl rfl) (by decide +kernel) (by decide +kernel) (by decide +kernel)
theorem m18_422 (a0 : Int32) : M18 422 ls [.int a0, .ref b] (put b pre s A post) Q = M15 0 [.val (.ref b), .val (.int a0), .unset, .unset, .unset] [] (put b pre s A post) (fun v H1 => M18 425 ls (v.toList ++ []) H1 Q) := w_virt (as := [.int a0]) (rest := []) (a := b) at_422 cr18_36 put_o rfl rfl (Nat.le_of_ble_eq_true rfl) (by show 2 ≤ 5; omega) rfl
theorem m18_425 : M18 425 ls (.int x :: st) H Q = if x = 0 then M18 430 ls st H Q else M18 428 ls st H Q := w_if at_425 (z_eq x) rfl
theorem m18_428 : M18 428 ls st H Q = M18 429 ls (.int 0 :: st) H Q := w_con at_428 rfl (by decide)
theorem m18_429 : M18 429 ls (.int z :: st) H Q = Q (some (.int (nar .boolean z))) H := w_iretN at_429 rfl (by simp)
theorem m18_430 : M18 430 [l0, l1, l2, l3, l4, l5, l6, l7, l8, l9, l10, l11, .val (.ref r), l13, l14, l15, l16, l17, l18, l19, l20, l21, l22, l23, l24, l25] st H Q = M18 432 [l0, l1, l2, l3, l4, l5, l6, l7, l8, l9, l10, l11, .val (.ref r), l13, l14, l15, l16, l17, l18, l19, l20, l21, l22, l23, l24, l25] (.ref r :: st) H Q := w_x at_430 rfl
theorem m18_432 : M18 432 ls st H Q = M18 433 ls (.int 1 :: st) H Q := w_con at_432 rfl (by decide)
theorem m18_433 (a0 : Int32) : M18 433 ls [.int a0, .ref b] (put b pre s A post) Q = M15 0 [.val (.ref b), .val (.int a0), .unset, .unset, .unset] [] (put b pre s A post) (fun v H1 => M18 436 ls (v.toList ++ []) H1 Q) := w_virt (as := [.int a0]) (rest := []) (a := b) at_433 cr18_36 put_o rfl rfl (Nat.le_of_ble_eq_true rfl) (by show 2 ≤ 5; omega) rfl
theorem m18_436 : M18 436 [l0, l1, l2, l3, l4, l5, l6, l7, l8, l9, l10, l11, l12, l13, l14, l15, l16, l17, .val (.int v), l19, l20, l21, l22, l23, l24, l25] st H Q = M18 438 [l0, l1, l2, l3, l4, l5, l6, l7, l8, l9, l10, l11, l12, l13, l14, l15, l16, l17, .val (.int v), l19, l20, l21, l22, l23, l24, l25] (.int v :: st) H Q := w_x at_436 rfl
theorem m18_438 : M18 438 ls (.int y :: .int x :: st) H Q = if x = y then M18 443 ls st H Q else M18 441 ls st H Q := w_icmp at_438 (i_eq x y) rfl
theorem m18_441 : M18 441 ls st H Q = M18 442 ls (.int 0 :: st) H Q := w_con at_441 rfl (by decide)
theorem m18_442 : M18 442 ls (.int z :: st) H Q = Q (some (.int (nar .boolean z))) H := w_iretN at_442 rfl (by simp)
theorem m18_443 : M18 443 [l0, l1, l2, l3, l4, l5, l6, l7, l8, l9, l10, l11, .val (.ref r), l13, l14, l15, l16, l17, l18, l19, l20, l21, l22, l23, l24, l25] st H Q = M18 445 [l0, l1, l2, l3, l4, l5, l6, l7, l8, l9, l10, l11, .val (.ref r), l13, l14, l15, l16, l17, l18, l19, l20, l21, l22, l23, l24, l25] (.ref r :: st) H Q := w_x at_443 rfl
theorem m18_445 : M18 445 ls st H Q = M18 446 ls (.int 2 :: st) H Q := w_con at_445 rfl (by decide)
theorem m18_446 (a0 : Int32) : M18 446 ls [.int a0, .ref b] (put b pre s A post) Q = M15 0 [.val (.ref b), .val (.int a0), .unset, .unset, .unset] [] (put b pre s A post) (fun v H1 => M18 449 ls (v.toList ++ []) H1 Q) := w_virt (as := [.int a0]) (rest := []) (a := b) at_446 cr18_36 put_o rfl rfl (Nat.le_of_ble_eq_true rfl) (by show 2 ≤ 5; omega) rfl
theorem m18_449 : M18 449 [l0, l1, l2, l3, l4, l5, l6, l7, l8, l9, l10, l11, l12, l13, l14, l15, l16, l17, l18, l19, l20, l21, .val (.int v), l23, l24, l25] st H Q = M18 451 [l0, l1, l2, l3, l4, l5, l6, l7, l8, l9, l10, l11, l12, l13, l14, l15, l16, l17, l18, l19, l20, l21, .val (.int v), l23, l24, l25] (.int v :: st) H Q := w_x at_449 rfl
theorem m18_451 : M18 451 ls (.int y :: .int x :: st) H Q = if x = y then M18 456 ls st H Q else M18 454 ls st H Q := w_icmp at_451 (i_eq x y) rfl
theorem m18_454 : M18 454 ls st H Q = M18 455 ls (.int 0 :: st) H Q := w_con at_454 rfl (by decide)
theorem m18_455 : M18 455 ls (.int z :: st) H Q = Q (some (.int (nar .boolean z))) H := w_iretN at_455 rfl (by simp)
theorem m18_456 : M18 456 [l0, l1, l2, l3, l4, l5, l6, l7, l8, l9, l10, l11, .val (.ref r), l13, l14, l15, l16, l17, l18, l19, l20, l21, l22, l23, l24, l25] st H Q = M18 458 [l0, l1, l2, l3, l4, l5, l6, l7, l8, l9, l10, l11, .val (.ref r), l13, l14, l15, l16, l17, l18, l19, l20, l21, l22, l23, l24, l25] (.ref r :: st) H Q := w_x at_456 rfl
theorem m18_458 : M18 458 ls st H Q = M18 459 ls (.int 3 :: st) H Q := w_con at_458 rfl (by decide)
theorem m18_459 (a0 : Int32) : M18 459 ls [.int a0, .ref b] (put b pre s A post) Q = M15 0 [.val (.ref b), .val (.int a0), .unset, .unset, .unset] [] (put b pre s A post) (fun v H1 => M18 462 ls (v.toList ++ []) H1 Q) := w_virt (as := [.int a0]) (rest := []) (a := b) at_459 cr18_36 put_o rfl rfl (Nat.le_of_ble_eq_true rfl) (by show 2 ≤ 5; omega) rfl
theorem m18_462 : M18 462 [l0, l1, l2, l3, l4, l5, l6, l7, l8, l9, l10, l11, l12, l13, l14, l15, l16, l17, l18, l19, l20, l21, l22, l23, l24, .val (.int v)] st H Q = M18 464 [l0, l1, l2, l3, l4, l5, l6, l7, l8, l9, l10, l11, l12, l13, l14, l15, l16, l17, l18, l19, l20, l21, l22, l23, l24, .val (.int v)] (.int v :: st) H Q := w_x at_462 rfl
theorem m18_464 : M18 464 ls (.int y :: .int x :: st) H Q = if x = y then M18 469 ls st H Q else M18 467 ls st H Q := w_icmp at_464 (i_eq x y) rfl
theorem m18_467 : M18 467 ls st H Q = M18 468 ls (.int 0 :: st) H Q := w_con at_467 rfl (by decide)
theorem m18_468 : M18 468 ls (.int z :: st) H Q = Q (some (.int (nar .boolean z))) H := w_iretN at_468 rfl (by simp)
theorem m18_469 : M18 469 [l0, l1, l2, l3, l4, l5, l6, l7, l8, l9, l10, l11, .val (.ref r), l13, l14, l15, l16, l17, l18, l19, l20, l21, l22, l23, l24, l25] st H Q = M18 471 [l0, l1, l2, l3, l4, l5, l6, l7, l8, l9, l10, l11, .val (.ref r), l13, l14, l15, l16, l17, l18, l19, l20, l21, l22, l23, l24, l25] (.ref r :: st) H Q := w_x at_469 rfl
theorem m18_471 : M18 471 ls st H Q = M18 472 ls (.int 4 :: st) H Q := w_con at_471 rfl (by decide)
theorem m18_472 (a0 : Int32) : M18 472 ls [.int a0, .ref b] (put b pre s A post) Q = M15 0 [.val (.ref b), .val (.int a0), .unset, .unset, .unset] [] (put b pre s A post) (fun v H1 => M18 475 ls (v.toList ++ []) H1 Q) := w_virt (as := [.int a0]) (rest := []) (a := b) at_472 cr18_36 put_o rfl rfl (Nat.le_of_ble_eq_true rfl) (by show 2 ≤ 5; omega) rfl
theorem m18_475 : M18 475 ls st H Q = M18 476 ls (.int 1 :: st) H Q := w_con at_475 rfl (by decide)
theorem m18_476 : M18 476 ls (.int y :: .int x :: st) H Q = if x = y then M18 481 ls st H Q else M18 479 ls st H Q := w_icmp at_476 (i_eq x y) rfl
theorem m18_479 : M18 479 ls st H Q = M18 480 ls (.int 0 :: st) H Q := w_con at_479 rfl (by decide)
theorem m18_480 : M18 480 ls (.int z :: st) H Q = Q (some (.int (nar .boolean z))) H := w_iretN at_480 rfl (by simp)
theorem m18_481 : M18 481 [l0, l1, l2, l3, l4, l5, l6, l7, l8, l9, l10, l11, .val (.ref r), l13, l14, l15, l16, l17, l18, l19, l20, l21, l22, l23, l24, l25] st H Q = M18 483 [l0, l1, l2, l3, l4, l5, l6, l7, l8, l9, l10, l11, .val (.ref r), l13, l14, l15, l16, l17, l18, l19, l20, l21, l22, l23, l24, l25] (.ref r :: st) H Q := w_x at_481 rfl
theorem m18_483 : M18 483 ls st H Q = M18 484 ls (.int 5 :: st) H Q := w_con at_483 rfl (by decide)
theorem m18_484 (a0 : Int32) : M18 484 ls [.int a0, .ref b] (put b pre s A post) Q = M15 0 [.val (.ref b), .val (.int a0), .unset, .unset, .unset] [] (put b pre s A post) (fun v H1 => M18 487 ls (v.toList ++ []) H1 Q) := w_virt (as := [.int a0]) (rest := []) (a := b) at_484 cr18_36 put_o rfl rfl (Nat.le_of_ble_eq_true rfl) (by show 2 ≤ 5; omega) rfl
theorem m18_487 : M18 487 ls (.int x :: st) H Q = if x = 0 then M18 492 ls st H Q else M18 490 ls st H Q := w_if at_487 (z_eq x) rfl
theorem m18_490 : M18 490 ls st H Q = M18 491 ls (.int 0 :: st) H Q := w_con at_490 rfl (by decide)
theorem m18_491 : M18 491 ls (.int z :: st) H Q = Q (some (.int (nar .boolean z))) H := w_iretN at_491 rfl (by simp)
theorem m18_492 : M18 492 [l0, l1, l2, l3, l4, l5, l6, l7, l8, l9, l10, l11, .val (.ref r), l13, l14, l15, l16, l17, l18, l19, l20, l21, l22, l23, l24, l25] st H Q = M18 494 [l0, l1, l2, l3, l4, l5, l6, l7, l8, l9, l10, l11, .val (.ref r), l13, l14, l15, l16, l17, l18, l19, l20, l21, l22, l23, l24, l25] (.ref r :: st) H Q := w_x at_492 rfl
theorem cr18_40 : vR tables_1 dn y18 40 = some (false, y16, prog_1_method_11_code, 1, (some .int), 0, 53) := vR_of (cR_of (by decide +kernel) rc_16 dn_16 dn_18 (sig := ⟨[], some .int⟩) (by decide +kernel) (by decide +kernel) rfl rfl) (by decide +kernel) (by decide +kernel) (by decide +kernel)
theorem m18_494 : M18 494 ls [.ref b] (put b pre s A post) Q = M16 0 [.val (.ref b)] [] (put b pre s A post) (fun v H1 => M18 497 ls (v.toList ++ []) H1 Q) := w_virt (as := []) (rest := []) (a := b) at_494 cr18_40 put_o rfl rfl (Nat.le_of_ble_eq_true rfl) (by show 1 ≤ 1; omega) rfl
theorem m18_497 : M18 497 [l0, l1, l2, l3, l4, l5, l6, l7, l8, l9, l10, l11, l12, l13, l14, l15, l16, l17, .val (.int v), l19, l20, l21, l22, l23, l24, l25] st H Q = M18 499 [l0, l1, l2, l3, l4, l5, l6, l7, l8, l9, l10, l11, l12, l13, l14, l15, l16, l17, .val (.int v), l19, l20, l21, l22, l23, l24, l25] (.int v :: st) H Q := w_x at_497 rfl
theorem m18_499 : M18 499 [l0, l1, l2, l3, l4, l5, l6, l7, l8, l9, l10, l11, l12, l13, l14, l15, l16, l17, l18, l19, l20, l21, .val (.int v), l23, l24, l25] st H Q = M18 501 [l0, l1, l2, l3, l4, l5, l6, l7, l8, l9, l10, l11, l12, l13, l14, l15, l16, l17, l18, l19, l20, l21, .val (.int v), l23, l24, l25] (.int v :: st) H Q := w_x at_499 rfl
theorem m18_501 : M18 501 ls (.int y :: .int x :: st) H Q = M18 502 ls (.int (x + y) :: st) H Q := w_x at_501 rfl
theorem m18_502 : M18 502 [l0, l1, l2, l3, l4, l5, l6, l7, l8, l9, l10, l11, l12, l13, l14, l15, l16, l17, l18, l19, l20, l21, l22, l23, l24, .val (.int v)] st H Q = M18 504 [l0, l1, l2, l3, l4, l5, l6, l7, l8, l9, l10, l11, l12, l13, l14, l15, l16, l17, l18, l19, l20, l21, l22, l23, l24, .val (.int v)] (.int v :: st) H Q := w_x at_502 rfl
theorem m18_504 : M18 504 ls (.int y :: .int x :: st) H Q = M18 505 ls (.int (x + y) :: st) H Q := w_x at_504 rfl
theorem m18_505 : M18 505 ls st H Q = M18 506 ls (.int 1 :: st) H Q := w_con at_505 rfl (by decide)
theorem m18_506 : M18 506 ls (.int y :: .int x :: st) H Q = M18 507 ls (.int (x + y) :: st) H Q := w_x at_506 rfl
theorem m18_507 : M18 507 ls (.int y :: .int x :: st) H Q = if x = y then M18 510 ls st H Q else M18 514 ls st H Q := w_icmpN at_507 (i_ne x y) rfl
theorem m18_510 : M18 510 ls st H Q = M18 511 ls (.int 1 :: st) H Q := w_con at_510 rfl (by decide)
theorem m18_511 : M18 511 ls st H Q = M18 515 ls st H Q := w_x at_511 rfl
theorem m18_514 : M18 514 ls st H Q = M18 515 ls (.int 0 :: st) H Q := w_con at_514 rfl (by decide)
theorem m18_515 : M18 515 ls (.int z :: st) H Q = Q (some (.int (nar .boolean z))) H := w_iretN at_515 rfl (by simp)
theorem pf0_7 : pfR tables_1 y0.cls y0.name 7 = some ("SuffixAutomat", 0, .array .int) := by decide +kernel
theorem m0_4a (hH : H.length = b) {vs : List Value} {r : AHeap} (hj : 0 < vs.length) : M0 4 (.val (.ref b) :: [l1, l2, l3, l4]) [] (H ++ (.object "SuffixAutomat", vs) :: r) Q = M0 12 (.val (.ref b) :: [l1, l2, l3, l4]) [] (H ++ (.object "SuffixAutomat", vs.set 0 (.ref (b + (r.length + 1)))) :: (r ++ [(.array .int, List.replicate 64 (.int 0))])) Q := w_iarr (n := 64) rfl hH (Nat.zero_le _) (show decode kb0 4 = .ok (.aload_n 0, 1) from by decide +kernel) rfl (show decode kb0 5 = .ok (.bipush 64, 2) from by decide +kernel) (fun _ => rfl) (by decide) (show decode kb0 7 = .ok (.newarray .int, 2) from by decide +kernel) rfl (by decide +kernel) (by decide) (by decide) rfl (show decode kb0 9 = .ok (.putfield 7, 3) from by decide +kernel) pf0_7 hj
theorem pf0_13 : pfR tables_1 y0.cls y0.name 13 = some ("SuffixAutomat", 1, .array .int) := by decide +kernel
theorem m0_12a (hH : H.length = b) {vs : List Value} {r : AHeap} (hj : 1 < vs.length) : M0 12 (.val (.ref b) :: [l1, l2, l3, l4]) [] (H ++ (.object "SuffixAutomat", vs) :: r) Q = M0 20 (.val (.ref b) :: [l1, l2, l3, l4]) [] (H ++ (.object "SuffixAutomat", vs.set 1 (.ref (b + (r.length + 1)))) :: (r ++ [(.array .int, List.replicate 64 (.int 0))])) Q := w_iarr (n := 64) rfl hH (Nat.zero_le _) (show decode kb0 12 = .ok (.aload_n 0, 1) from by decide +kernel) rfl (show decode kb0 13 = .ok (.bipush 64, 2) from by decide +kernel) (fun _ => rfl) (by decide) (show decode kb0 15 = .ok (.newarray .int, 2) from by decide +kernel) rfl (by decide +kernel) (by decide) (by decide) rfl (show decode kb0 17 = .ok (.putfield 13, 3) from by decide +kernel) pf0_13 hj
theorem pf0_16 : pfR tables_1 y0.cls y0.name 16 = some ("SuffixAutomat", 2, .array .int) := by decide +kernel
theorem m0_20a (hH : H.length = b) {vs : List Value} {r : AHeap} (hj : 2 < vs.length) : M0 20 (.val (.ref b) :: [l1, l2, l3, l4]) [] (H ++ (.object "SuffixAutomat", vs) :: r) Q = M0 28 (.val (.ref b) :: [l1, l2, l3, l4]) [] (H ++ (.object "SuffixAutomat", vs.set 2 (.ref (b + (r.length + 1)))) :: (r ++ [(.array .int, List.replicate 64 (.int 0))])) Q := w_iarr (n := 64) rfl hH (Nat.zero_le _) (show decode kb0 20 = .ok (.aload_n 0, 1) from by decide +kernel) rfl (show decode kb0 21 = .ok (.bipush 64, 2) from by decide +kernel) (fun _ => rfl) (by decide) (show decode kb0 23 = .ok (.newarray .int, 2) from by decide +kernel) rfl (by decide +kernel) (by decide) (by decide) rfl (show decode kb0 25 = .ok (.putfield 16, 3) from by decide +kernel) pf0_16 hj
theorem pf0_19 : pfR tables_1 y0.cls y0.name 19 = some ("SuffixAutomat", 3, .array .int) := by decide +kernel
theorem m0_28a (hH : H.length = b) {vs : List Value} {r : AHeap} (hj : 3 < vs.length) : M0 28 (.val (.ref b) :: [l1, l2, l3, l4]) [] (H ++ (.object "SuffixAutomat", vs) :: r) Q = M0 37 (.val (.ref b) :: [l1, l2, l3, l4]) [] (H ++ (.object "SuffixAutomat", vs.set 3 (.ref (b + (r.length + 1)))) :: (r ++ [(.array .int, List.replicate 1024 (.int 0))])) Q := w_iarr (n := 1024) rfl hH (Nat.zero_le _) (show decode kb0 28 = .ok (.aload_n 0, 1) from by decide +kernel) rfl (show decode kb0 29 = .ok (.sipush 1024, 3) from by decide +kernel) (fun _ => rfl) (by decide) (show decode kb0 32 = .ok (.newarray .int, 2) from by decide +kernel) rfl (by decide +kernel) (by decide) (by decide) rfl (show decode kb0 34 = .ok (.putfield 19, 3) from by decide +kernel) pf0_19 hj
theorem pf0_22 : pfR tables_1 y0.cls y0.name 22 = some ("SuffixAutomat", 4, .array .int) := by decide +kernel
theorem m0_37a (hH : H.length = b) {vs : List Value} {r : AHeap} (hj : 4 < vs.length) : M0 37 (.val (.ref b) :: [l1, l2, l3, l4]) [] (H ++ (.object "SuffixAutomat", vs) :: r) Q = M0 46 (.val (.ref b) :: [l1, l2, l3, l4]) [] (H ++ (.object "SuffixAutomat", vs.set 4 (.ref (b + (r.length + 1)))) :: (r ++ [(.array .int, List.replicate 128 (.int 0))])) Q := w_iarr (n := 128) rfl hH (Nat.zero_le _) (show decode kb0 37 = .ok (.aload_n 0, 1) from by decide +kernel) rfl (show decode kb0 38 = .ok (.sipush 128, 3) from by decide +kernel) (fun _ => rfl) (by decide) (show decode kb0 41 = .ok (.newarray .int, 2) from by decide +kernel) rfl (by decide +kernel) (by decide) (by decide) rfl (show decode kb0 43 = .ok (.putfield 22, 3) from by decide +kernel) pf0_22 hj
theorem pf0_25 : pfR tables_1 y0.cls y0.name 25 = some ("SuffixAutomat", 5, .array .int) := by decide +kernel
theorem m0_46a (hH : H.length = b) {vs : List Value} {r : AHeap} (hj : 5 < vs.length) : M0 46 (.val (.ref b) :: [l1, l2, l3, l4]) [] (H ++ (.object "SuffixAutomat", vs) :: r) Q = M0 55 (.val (.ref b) :: [l1, l2, l3, l4]) [] (H ++ (.object "SuffixAutomat", vs.set 5 (.ref (b + (r.length + 1)))) :: (r ++ [(.array .int, List.replicate 128 (.int 0))])) Q := w_iarr (n := 128) rfl hH (Nat.zero_le _) (show decode kb0 46 = .ok (.aload_n 0, 1) from by decide +kernel) rfl (show decode kb0 47 = .ok (.sipush 128, 3) from by decide +kernel) (fun _ => rfl) (by decide) (show decode kb0 50 = .ok (.newarray .int, 2) from by decide +kernel) rfl (by decide +kernel) (by decide) (by decide) rfl (show decode kb0 52 = .ok (.putfield 25, 3) from by decide +kernel) pf0_25 hj
theorem pf0_28 : pfR tables_1 y0.cls y0.name 28 = some ("SuffixAutomat", 6, .array .int) := by decide +kernel
theorem m0_55a (hH : H.length = b) {vs : List Value} {r : AHeap} (hj : 6 < vs.length) : M0 55 (.val (.ref b) :: [l1, l2, l3, l4]) [] (H ++ (.object "SuffixAutomat", vs) :: r) Q = M0 64 (.val (.ref b) :: [l1, l2, l3, l4]) [] (H ++ (.object "SuffixAutomat", vs.set 6 (.ref (b + (r.length + 1)))) :: (r ++ [(.array .int, List.replicate 128 (.int 0))])) Q := w_iarr (n := 128) rfl hH (Nat.zero_le _) (show decode kb0 55 = .ok (.aload_n 0, 1) from by decide +kernel) rfl (show decode kb0 56 = .ok (.sipush 128, 3) from by decide +kernel) (fun _ => rfl) (by decide) (show decode kb0 59 = .ok (.newarray .int, 2) from by decide +kernel) rfl (by decide +kernel) (by decide) (by decide) rfl (show decode kb0 61 = .ok (.putfield 28, 3) from by decide +kernel) pf0_28 hj
theorem pf0_31 : pfR tables_1 y0.cls y0.name 31 = some ("SuffixAutomat", 7, .array .boolean) := by decide +kernel
theorem m0_64a (hH : H.length = b) {vs : List Value} {r : AHeap} (hj : 7 < vs.length) : M0 64 (.val (.ref b) :: [l1, l2, l3, l4]) [] (H ++ (.object "SuffixAutomat", vs) :: r) Q = M0 73 (.val (.ref b) :: [l1, l2, l3, l4]) [] (H ++ (.object "SuffixAutomat", vs.set 7 (.ref (b + (r.length + 1)))) :: (r ++ [(.array .boolean, List.replicate 128 (.int 0))])) Q := w_iarr (n := 128) rfl hH (Nat.zero_le _) (show decode kb0 64 = .ok (.aload_n 0, 1) from by decide +kernel) rfl (show decode kb0 65 = .ok (.sipush 128, 3) from by decide +kernel) (fun _ => rfl) (by decide) (show decode kb0 68 = .ok (.newarray .boolean, 2) from by decide +kernel) rfl (by decide +kernel) (by decide) (by decide) rfl (show decode kb0 70 = .ok (.putfield 31, 3) from by decide +kernel) pf0_31 hj
theorem pf0_35 : pfR tables_1 y0.cls y0.name 35 = some ("SuffixAutomat", 8, .array .int) := by decide +kernel
theorem m0_73a (hH : H.length = b) {vs : List Value} {r : AHeap} (hj : 8 < vs.length) : M0 73 (.val (.ref b) :: [l1, l2, l3, l4]) [] (H ++ (.object "SuffixAutomat", vs) :: r) Q = M0 82 (.val (.ref b) :: [l1, l2, l3, l4]) [] (H ++ (.object "SuffixAutomat", vs.set 8 (.ref (b + (r.length + 1)))) :: (r ++ [(.array .int, List.replicate 128 (.int 0))])) Q := w_iarr (n := 128) rfl hH (Nat.zero_le _) (show decode kb0 73 = .ok (.aload_n 0, 1) from by decide +kernel) rfl (show decode kb0 74 = .ok (.sipush 128, 3) from by decide +kernel) (fun _ => rfl) (by decide) (show decode kb0 77 = .ok (.newarray .int, 2) from by decide +kernel) rfl (by decide +kernel) (by decide) (by decide) rfl (show decode kb0 79 = .ok (.putfield 35, 3) from by decide +kernel) pf0_35 hj
theorem pf0_38 : pfR tables_1 y0.cls y0.name 38 = some ("SuffixAutomat", 9, .array .int) := by decide +kernel
theorem m0_82a (hH : H.length = b) {vs : List Value} {r : AHeap} (hj : 9 < vs.length) : M0 82 (.val (.ref b) :: [l1, l2, l3, l4]) [] (H ++ (.object "SuffixAutomat", vs) :: r) Q = M0 91 (.val (.ref b) :: [l1, l2, l3, l4]) [] (H ++ (.object "SuffixAutomat", vs.set 9 (.ref (b + (r.length + 1)))) :: (r ++ [(.array .int, List.replicate 128 (.int 0))])) Q := w_iarr (n := 128) rfl hH (Nat.zero_le _) (show decode kb0 82 = .ok (.aload_n 0, 1) from by decide +kernel) rfl (show decode kb0 83 = .ok (.sipush 128, 3) from by decide +kernel) (fun _ => rfl) (by decide) (show decode kb0 86 = .ok (.newarray .int, 2) from by decide +kernel) rfl (by decide +kernel) (by decide) (by decide) rfl (show decode kb0 88 = .ok (.putfield 38, 3) from by decide +kernel) pf0_38 hj
theorem pf0_41 : pfR tables_1 y0.cls y0.name 41 = some ("SuffixAutomat", 10, .array .int) := by decide +kernel
theorem m0_91a (hH : H.length = b) {vs : List Value} {r : AHeap} (hj : 10 < vs.length) : M0 91 (.val (.ref b) :: [l1, l2, l3, l4]) [] (H ++ (.object "SuffixAutomat", vs) :: r) Q = M0 99 (.val (.ref b) :: [l1, l2, l3, l4]) [] (H ++ (.object "SuffixAutomat", vs.set 10 (.ref (b + (r.length + 1)))) :: (r ++ [(.array .int, List.replicate 65 (.int 0))])) Q := w_iarr (n := 65) rfl hH (Nat.zero_le _) (show decode kb0 91 = .ok (.aload_n 0, 1) from by decide +kernel) rfl (show decode kb0 92 = .ok (.bipush 65, 2) from by decide +kernel) (fun _ => rfl) (by decide) (show decode kb0 94 = .ok (.newarray .int, 2) from by decide +kernel) rfl (by decide +kernel) (by decide) (by decide) rfl (show decode kb0 96 = .ok (.putfield 41, 3) from by decide +kernel) pf0_41 hj
def A0 : Nat → List Int32
  | 0 => List.replicate 64 0
  | 1 => List.replicate 64 0
  | 2 => List.replicate 64 0
  | 3 => List.replicate 1024 0
  | 4 => List.replicate 128 0
  | 5 => List.replicate 128 0
  | 6 => List.replicate 128 0
  | 7 => List.replicate 128 0
  | 8 => List.replicate 128 0
  | 9 => List.replicate 128 0
  | 10 => List.replicate 65 0
  | _ => []
theorem A0l_0 : (A0 0).length = 64 := List.length_replicate
theorem A0g_0 (j : Int32) : getA (A0 0) j = 0 := getA_rep _ _
theorem A0l_1 : (A0 1).length = 64 := List.length_replicate
theorem A0g_1 (j : Int32) : getA (A0 1) j = 0 := getA_rep _ _
theorem A0l_2 : (A0 2).length = 64 := List.length_replicate
theorem A0g_2 (j : Int32) : getA (A0 2) j = 0 := getA_rep _ _
theorem A0l_3 : (A0 3).length = 1024 := List.length_replicate
theorem A0g_3 (j : Int32) : getA (A0 3) j = 0 := getA_rep _ _
theorem A0l_4 : (A0 4).length = 128 := List.length_replicate
theorem A0g_4 (j : Int32) : getA (A0 4) j = 0 := getA_rep _ _
theorem A0l_5 : (A0 5).length = 128 := List.length_replicate
theorem A0g_5 (j : Int32) : getA (A0 5) j = 0 := getA_rep _ _
theorem A0l_6 : (A0 6).length = 128 := List.length_replicate
theorem A0g_6 (j : Int32) : getA (A0 6) j = 0 := getA_rep _ _
theorem A0l_7 : (A0 7).length = 128 := List.length_replicate
theorem A0g_7 (j : Int32) : getA (A0 7) j = 0 := getA_rep _ _
theorem A0l_8 : (A0 8).length = 128 := List.length_replicate
theorem A0g_8 (j : Int32) : getA (A0 8) j = 0 := getA_rep _ _
theorem A0l_9 : (A0 9).length = 128 := List.length_replicate
theorem A0g_9 (j : Int32) : getA (A0 9) j = 0 := getA_rep _ _
theorem A0l_10 : (A0 10).length = 65 := List.length_replicate
theorem A0g_10 (j : Int32) : getA (A0 10) j = 0 := getA_rep _ _
theorem own_ctor0 (hb : pre.length = b) : M0 0 (.val (.ref b) :: [l1, l2, l3, l4]) [] (pre ++ [(.object "SuffixAutomat", D0)]) Q = M0 99 (.val (.ref b) :: [l1, l2, l3, l4]) [] (put b pre (fun _ => 0) A0 []) Q := by
  rw [m0_0, m0_1, m0_4a hb (by (repeat rw [List.length_set]); exact Nat.le_of_ble_eq_true rfl), m0_12a hb (by (repeat rw [List.length_set]); exact Nat.le_of_ble_eq_true rfl), m0_20a hb (by (repeat rw [List.length_set]); exact Nat.le_of_ble_eq_true rfl), m0_28a hb (by (repeat rw [List.length_set]); exact Nat.le_of_ble_eq_true rfl), m0_37a hb (by (repeat rw [List.length_set]); exact Nat.le_of_ble_eq_true rfl), m0_46a hb (by (repeat rw [List.length_set]); exact Nat.le_of_ble_eq_true rfl), m0_55a hb (by (repeat rw [List.length_set]); exact Nat.le_of_ble_eq_true rfl), m0_64a hb (by (repeat rw [List.length_set]); exact Nat.le_of_ble_eq_true rfl), m0_73a hb (by (repeat rw [List.length_set]); exact Nat.le_of_ble_eq_true rfl), m0_82a hb (by (repeat rw [List.length_set]); exact Nat.le_of_ble_eq_true rfl), m0_91a hb (by (repeat rw [List.length_set]); exact Nat.le_of_ble_eq_true rfl)]
  simp only [put, pad_eq hb, objv, D0, A0, List.map_replicate, List.set_cons_succ, List.set_cons_zero, List.nil_append, List.cons_append, List.length_cons, List.length_nil, List.append_nil]
end Rules
/- methods: 0=SuffixAutomat.<init>(II)V; 1=SuffixAutomat.resetAutomaton()V; 2=SuffixAutomat.clearState(I)V; 3=SuffixAutomat.append(I)Z; 4=SuffixAutomat.extend(I)V; 5=SuffixAutomat.addEdges(III)I; 6=SuffixAutomat.pushPattern(I)Z; 7=SuffixAutomat.length()I; 8=SuffixAutomat.patternLength()I; 9=SuffixAutomat.contains()Z; 10=SuffixAutomat.walkPattern()I; 11=SuffixAutomat.occurrences()I; 12=SuffixAutomat.ensureCounts()V; 13=SuffixAutomat.sortByLength()V; 14=SuffixAutomat.firstOccurrence()I; 15=SuffixAutomat.distinctOfLength(I)I; 16=SuffixAutomat.distinctCount()I; 17=SuffixAutomat.splitState(IIII)V; 18=SuffixAutomatL3.law(IIIIII)Z -/
theorem own_bit (x : Int32) : x &&& 1 = 0 ∨ x &&& 1 = 1 := by
  have h : (x &&& 1).toBitVec.toNat = x.toBitVec.toNat % 2 := by
    rw [Int32.toBitVec_and, BitVec.toNat_and]
    exact Nat.and_one_is_mod _
  rcases Nat.mod_two_eq_zero_or_one x.toBitVec.toNat with e | e
  · exact Or.inl (Int32.toBitVec_inj.mp (BitVec.eq_of_toNat_eq (by rw [h, e]; rfl)))
  · exact Or.inr (Int32.toBitVec_inj.mp (BitVec.eq_of_toNat_eq (by rw [h, e]; rfl)))
set_option maxRecDepth 1000000 in
set_option maxHeartbeats 20000000 in
theorem own_t0000 (i0 : Int32) (i1 : Int32) (i2 : Int32) (i3 : Int32) (i4 : Int32) (i5 : Int32) (e0 : i0 &&& 1 = 0) (e1 : i1 &&& 1 = 0) (e2 : i2 &&& 1 = 0) (e3 : i3 &&& 1 = 0) : W tables_1 dn 0 x code ret 0 (entry [.int i0, .int i1, .int i2, .int i3, .int i4, .int i5] maxLocals) [] [] (fun v H1 => v = some (.int 1) ∧ H1.length - ([] : AHeap).length ≤ 32 ∧ tot tables_1 H1 - tot tables_1 [] ≤ 4224) := by
  show M18 0 [.val (.int i0), .val (.int i1), .val (.int i2), .val (.int i3), .val (.int i4), .val (.int i5), .unset, .unset, .unset, .unset, .unset, .unset, .unset, .unset, .unset, .unset, .unset, .unset, .unset, .unset, .unset, .unset, .unset, .unset, .unset, .unset] [] [] _
  rw [m18_0, m18_1, m18_2, m18_3u, m18_5, m18_6, m18_7, m18_8u, m18_10, m18_11, m18_12, m18_13u, m18_15, m18_16, m18_17, m18_18u, m18_20, m18_22, m18_23, m18_24u, m18_26, m18_28, m18_29, m18_30u, m18_32, m18_35, m18_36, m18_37, m18_39, own_ctor0 rfl]
  rcases own_bit i4 with e4 | e4 <;> rcases own_bit i5 with e5 | e5 <;>
  · simp (maxSteps := 10000000) [e0, e1, e2, e3, e4, e5, m0_0, m0_1, m0_4, m0_5, m0_12, m0_13, m0_20, m0_21, m0_28, m0_29, m0_37, m0_38, m0_46, m0_47, m0_55, m0_56, m0_64, m0_65, m0_73, m0_74, m0_82, m0_83, m0_91, m0_92, m0_99, m0_100u, m0_101, m0_102, m0_103, m0_106, m0_107i, m0_108, m0_109, m0_111, m0_114, m0_116i, m0_117, m0_118u, m0_120, m0_122, m0_124, m0_127, m0_129i, m0_131, m0_133, m0_135, m0_138, m0_140i, m0_142, m0_143, m0_144, m0_147, m0_148, m0_150, m0_153, m0_154, m0_155, m0_158, m0_159, m0_160, m0_163, m0_164, m0_165, m0_168, m0_169, m0_172, m1_0, m1_1, m1_2, m1_5, m1_6, m1_7, m1_10, m1_11, m1_12, m1_15, m1_16, m1_17, m1_20, m1_21, m1_22, m1_25, m2_0, m2_1, m2_4, m2_5, m2_8, m2_11, m2_12, m2_13, m2_16, m2_17, m2_18, m2_19, m2_20, m2_23, m2_24, m2_25, m2_26, m2_27, m2_30, m2_31, m2_32, m2_33, m2_34, m2_37, m2_38, m2_39, m2_40, m2_41, m2_44, m2_45, m2_46, m2_47, m2_48, m2_50, m2_51u, m2_52, m2_53u, m2_54, m2_55, m2_57, m2_60, m2_61, m2_64, m2_65, m2_66, m2_67, m2_68, m2_69, m2_72, m2_75, m3_0, m3_1, m3_4, m3_5, m3_6, m3_9, m3_12, m3_13, m3_14, m3_15, m3_18, m3_19, m3_22, m3_25, m3_26, m3_27, m3_28, m3_31, m3_32, m3_35, m3_36, m3_37, m3_38, m3_39, m3_42, m3_43, m3_44, m3_47, m3_48, m3_49, m3_52, m3_53, m4_0, m4_1, m4_4, m4_5, m4_6, m4_9, m4_12, m4_13, m4_16, m4_17, m4_19, m4_22, m4_23, m4_24, m4_27u, m4_28, m4_29, m4_30, m4_33, m4_34, m4_35, m4_38, m4_39, m4_40, m4_43, m4_44, m4_47, m4_48, m4_49, m4_52, m4_53, m4_56, m4_57, m4_58, m4_59, m4_60, m4_61, m4_64, m4_65, m4_66, m4_69, m4_70, m4_71, m4_72, m4_73, m4_74, m4_75, m4_76, m4_79, m4_80, m4_81, m4_84u, m4_85, m4_86, m4_89, m4_90, m4_93, m4_94, m4_95, m4_96, m4_99, m4_100, m4_103, m4_104, m4_106, m4_107, m4_108, m4_109, m4_110u, m4_112, m4_113, m4_116, m4_117, m4_118, m4_119, m4_120, m4_121, m4_124, m4_126, m4_127, m4_130, m4_131, m4_134, m4_135, m4_137, m4_138, m4_141, m4_142, m4_143, m4_144, m4_146, m4_147, m4_150, m4_151, m4_152, m4_155, m4_156, m4_157, m4_160, m4_161, m4_164, m4_165, m4_166, m4_167, m4_170, m4_171, m4_174, m4_175, m4_176, m4_177, m4_178, m4_179, m4_182, m4_183, m4_184, m4_187, m5_0, m5_1u, m5_3, m5_4u, m5_6, m5_8, m5_11, m5_14, m5_16, m5_19, m5_20, m5_23, m5_25, m5_27, m5_28, m5_29, m5_30, m5_31, m5_34, m5_35, m5_38, m5_40, m5_42, m5_43, m5_44, m5_45, m5_46, m5_47, m5_48, m5_51, m5_53, m5_54i, m5_56, m5_59, m5_62, m5_64, m6_0, m6_1, m6_4, m6_5, m6_6, m6_9, m6_12, m6_13, m6_14, m6_15, m6_18, m6_20, m6_23, m6_24, m6_25, m6_26, m6_29, m6_30, m6_33, m6_34, m6_35, m6_36, m6_37, m6_40, m6_41, m6_42, m6_45, m6_46, m7_0, m7_1, m7_4, m8_0, m8_1, m8_4, m9_0, m9_1, m9_4, m9_7, m9_8, m9_9, m9_10, m9_13, m9_14, m9_17, m9_20, m9_21, m9_22, m9_23, m9_26, m9_27, m9_30, m9_31, m9_34, m9_35, m10_0, m10_1u, m10_2, m10_3u, m10_4, m10_5, m10_6, m10_9, m10_12, m10_13, m10_15, m10_18, m10_19, m10_22, m10_23, m10_24u, m10_24i, m10_24r, m10_25, m10_26, m10_29, m10_30, m10_32, m10_35, m10_36, m10_37, m10_38, m10_41, m10_42, m10_44, m10_45, m10_46, m10_47, m10_48u, m10_48i, m10_48r, m10_50, m10_52, m10_55, m10_56, m10_57, m10_59i, m10_60, m10_63, m10_66, m10_67, m11_0, m11_1, m11_4, m11_7, m11_8, m11_11, m11_12, m11_13, m11_14, m11_15, m11_18, m11_19, m11_22, m11_25, m11_26, m11_27, m11_28, m11_31u, m11_32, m11_33, m11_34, m11_37, m11_38, m11_39, m11_40, m11_43, m11_44, m11_47, m11_48, m11_49, m12_0, m12_1, m12_4, m12_7, m12_8, m12_9, m12_12, m12_13u, m12_14, m12_15, m12_16, m12_19, m12_22, m12_23, m12_26, m12_29, m12_30, m12_33, m12_34, m12_35, m12_38, m12_39, m12_42, m12_43, m12_44, m12_47, m12_48, m12_51, m12_52, m12_53, m12_56, m12_59, m12_60, m12_63, m12_64, m12_65i, m12_66, m12_67, m12_68, m12_71, m12_72, m12_75, m12_76, m12_77u, m12_77i, m12_77r, m12_78, m12_79, m12_82, m12_83, m12_84u, m12_84i, m12_84r, m12_85, m12_86, m12_89, m12_90, m12_93, m12_94, m12_95, m12_96, m12_97, m12_100, m12_101, m12_102, m12_103, m12_104, m12_107, m12_110, m12_111, m12_112, m12_115, m13_0, m13_1u, m13_2, m13_3, m13_5, m13_8, m13_9, m13_12, m13_13, m13_14, m13_15, m13_18, m13_21, m13_22i, m13_23, m13_24, m13_25, m13_28, m13_31, m13_32, m13_35, m13_38, m13_39, m13_42, m13_43, m13_46, m13_47, m13_48, m13_49, m13_50, m13_51, m13_52, m13_53, m13_56, m13_59, m13_60i, m13_61, m13_62, m13_64, m13_67, m13_68, m13_71, m13_72, m13_73, m13_74, m13_75, m13_78, m13_79, m13_80, m13_81, m13_82, m13_83, m13_84, m13_87, m13_90, m13_91, m13_94, m13_95, m13_96i, m13_97, m13_98, m13_101, m13_102, m13_105, m13_106, m13_107u, m13_107i, m13_107r, m13_108, m13_109, m13_112, m13_113, m13_114, m13_115, m13_116, m13_117, m13_118, m13_119, m13_122, m13_123, m13_124u, m13_124i, m13_124r, m13_125, m13_126, m13_129, m13_130, m13_133, m13_136, m13_137, m13_140, m13_141, m13_142, m13_143, m13_146, m13_149, m14_0, m14_1, m14_4, m14_7, m14_8, m14_9, m14_10, m14_13, m14_14, m14_17, m14_20, m14_21, m14_22, m14_23, m14_26u, m14_27, m14_28, m14_29, m14_32, m14_33, m14_34, m14_35, m14_38, m14_39, m14_40, m14_41, m14_44, m14_45, m14_46, m14_47, m15_0, m15_1, m15_4, m15_5, m15_6, m15_9, m15_12, m15_13, m15_14, m15_15u, m15_16, m15_17u, m15_18, m15_19, m15_20, m15_23, m15_26, m15_27, m15_30, m15_33, m15_34, m15_37, m15_38, m15_39u, m15_39i, m15_39r, m15_41, m15_43, m15_46, m15_47, m15_50, m15_52, m15_53, m15_54, m15_57, m15_58, m15_59, m15_62, m15_63, m15_64, m15_67, m15_70, m15_73, m15_76, m15_77, m16_0, m16_1, m16_4, m17_0, m17_1, m17_4u, m17_6, m17_7, m17_8, m17_11, m17_12, m17_13, m17_16, m17_17, m17_19, m17_22, m17_23, m17_26, m17_28, m17_29, m17_32, m17_33, m17_34, m17_35, m17_36, m17_37, m17_38, m17_41, m17_43, m17_44, m17_47, m17_48, m17_49, m17_50, m17_51, m17_54, m17_56, m17_57, m17_60, m17_61, m17_62, m17_63, m17_64, m17_67, m17_69, m17_70, m17_71, m17_72, m17_74, m17_75u, m17_77, m17_79, m17_81, m17_82u, m17_84, m17_85u, m17_87, m17_89, m17_91, m17_94, m17_95, m17_98, m17_100, m17_102, m17_103, m17_104, m17_107, m17_109, m17_111, m17_112, m17_113, m17_114, m17_117, m17_120, m17_121i, m17_123, m17_124u, m17_126, m17_128, m17_131, m17_134, m17_136, m17_139, m17_140, m17_143, m17_145, m17_147, m17_148, m17_149, m17_150, m17_151, m17_152, m17_155, m17_156, m17_159, m17_161, m17_163, m17_164, m17_165, m17_166, m17_168, m17_169, m17_170, m17_173, m17_175, m17_176i, m17_178, m17_181, m17_184, m17_185, m17_188, m17_189, m17_191, m17_192, m17_193, m17_196, m17_198, m17_200, m17_201, m18_0, m18_1, m18_2, m18_3u, m18_5, m18_6, m18_7, m18_8u, m18_10, m18_11, m18_12, m18_13u, m18_15, m18_16, m18_17, m18_18u, m18_20, m18_22, m18_23, m18_24u, m18_26, m18_28, m18_29, m18_30u, m18_32, m18_35, m18_36, m18_37, m18_39, m18_42u, m18_44, m18_46, m18_48, m18_51, m18_54, m18_55, m18_56, m18_58, m18_60, m18_63, m18_66, m18_67, m18_68, m18_70, m18_72, m18_75, m18_78, m18_79, m18_80, m18_82, m18_84, m18_87, m18_90, m18_91, m18_92, m18_94, m18_96, m18_99, m18_102, m18_103, m18_104, m18_106, m18_108, m18_111, m18_114, m18_115, m18_116, m18_118, m18_121, m18_122, m18_125, m18_127, m18_130, m18_131, m18_134, m18_135, m18_136, m18_138, m18_140, m18_143, m18_145, m18_147, m18_150, m18_151, m18_154, m18_155u, m18_157, m18_159, m18_161, m18_164, m18_166, m18_168, m18_171, m18_172, m18_175, m18_176u, m18_178, m18_180, m18_182, m18_185, m18_187, m18_189, m18_192, m18_193, m18_196, m18_197u, m18_199, m18_201, m18_203, m18_204, m18_206, m18_207u, m18_209, m18_211, m18_212, m18_215, m18_216, m18_219, m18_221, m18_222, m18_225, m18_226, m18_229, m18_231, m18_232, m18_235, m18_236, m18_239, m18_240u, m18_242, m18_244, m18_247, m18_249, m18_252, m18_253, m18_256, m18_257, m18_260, m18_261, m18_262, m18_264, m18_267, m18_269, m18_272, m18_273, m18_274, m18_276, m18_279, m18_281, m18_284, m18_285, m18_286, m18_288, m18_290, m18_293, m18_295, m18_297, m18_300, m18_302, m18_304, m18_307, m18_308, m18_311, m18_312u, m18_314, m18_315, m18_317, m18_318, m18_320, m18_321u, m18_323, m18_324, m18_326, m18_327, m18_329, m18_330u, m18_332, m18_333, m18_335, m18_336, m18_338, m18_339u, m18_341, m18_342, m18_344, m18_346, m18_349, m18_350, m18_353, m18_354, m18_355, m18_357, m18_359, m18_362, m18_364, m18_366, m18_369, m18_370, m18_373, m18_374, m18_375u, m18_377, m18_378, m18_380, m18_381, m18_382, m18_384, m18_385, m18_386, m18_388, m18_389u, m18_391, m18_392, m18_394, m18_395, m18_396, m18_398, m18_399, m18_400, m18_402, m18_403u, m18_405, m18_407, m18_409, m18_412, m18_413, m18_416, m18_417u, m18_419, m18_421, m18_422, m18_425, m18_428, m18_429, m18_430, m18_432, m18_433, m18_436, m18_438, m18_441, m18_442, m18_443, m18_445, m18_446, m18_449, m18_451, m18_454, m18_455, m18_456, m18_458, m18_459, m18_462, m18_464, m18_467, m18_468, m18_469, m18_471, m18_472, m18_475, m18_476, m18_479, m18_480, m18_481, m18_483, m18_484, m18_487, m18_490, m18_491, m18_492, m18_494, m18_497, m18_499, m18_501, m18_502, m18_504, m18_505, m18_506, m18_507, m18_510, m18_511, m18_514, m18_515, nb0, nb1, ou_a, Option.toList_some, Option.toList_none, List.nil_append, List.cons_append, ou_same, ou_comm, setA_same, getA_set2, setA_len, inB_iff, A0g_0, A0g_1, A0g_2, A0g_3, A0g_4, A0g_5, A0g_6, A0g_7, A0g_8, A0g_9, A0g_10, A0l_0, A0l_1, A0l_2, A0l_3, A0l_4, A0l_5, A0l_6, A0l_7, A0l_8, A0l_9, A0l_10]
    refine ⟨?_, ?_⟩ <;> simp only [ou_a, setA_len, put_len, put_tot, pad_0, tot_nil, List.length_nil, List.length_cons, A0l_0, A0l_1, A0l_2, A0l_3, A0l_4, A0l_5, A0l_6, A0l_7, A0l_8, A0l_9, A0l_10] <;> simp [setA_len, put_len, put_tot, pad_0, tot_nil, List.length_nil, List.length_cons, A0l_0, A0l_1, A0l_2, A0l_3, A0l_4, A0l_5, A0l_6, A0l_7, A0l_8, A0l_9, A0l_10]
set_option maxRecDepth 1000000 in
set_option maxHeartbeats 20000000 in
theorem own_t1000 (i0 : Int32) (i1 : Int32) (i2 : Int32) (i3 : Int32) (i4 : Int32) (i5 : Int32) (e0 : i0 &&& 1 = 1) (e1 : i1 &&& 1 = 0) (e2 : i2 &&& 1 = 0) (e3 : i3 &&& 1 = 0) : W tables_1 dn 0 x code ret 0 (entry [.int i0, .int i1, .int i2, .int i3, .int i4, .int i5] maxLocals) [] [] (fun v H1 => v = some (.int 1) ∧ H1.length - ([] : AHeap).length ≤ 32 ∧ tot tables_1 H1 - tot tables_1 [] ≤ 4224) := by
  show M18 0 [.val (.int i0), .val (.int i1), .val (.int i2), .val (.int i3), .val (.int i4), .val (.int i5), .unset, .unset, .unset, .unset, .unset, .unset, .unset, .unset, .unset, .unset, .unset, .unset, .unset, .unset, .unset, .unset, .unset, .unset, .unset, .unset] [] [] _
  rw [m18_0, m18_1, m18_2, m18_3u, m18_5, m18_6, m18_7, m18_8u, m18_10, m18_11, m18_12, m18_13u, m18_15, m18_16, m18_17, m18_18u, m18_20, m18_22, m18_23, m18_24u, m18_26, m18_28, m18_29, m18_30u, m18_32, m18_35, m18_36, m18_37, m18_39, own_ctor0 rfl]
  rcases own_bit i4 with e4 | e4 <;> rcases own_bit i5 with e5 | e5 <;>
  · simp (maxSteps := 10000000) [e0, e1, e2, e3, e4, e5, m0_0, m0_1, m0_4, m0_5, m0_12, m0_13, m0_20, m0_21, m0_28, m0_29, m0_37, m0_38, m0_46, m0_47, m0_55, m0_56, m0_64, m0_65, m0_73, m0_74, m0_82, m0_83, m0_91, m0_92, m0_99, m0_100u, m0_101, m0_102, m0_103, m0_106, m0_107i, m0_108, m0_109, m0_111, m0_114, m0_116i, m0_117, m0_118u, m0_120, m0_122, m0_124, m0_127, m0_129i, m0_131, m0_133, m0_135, m0_138, m0_140i, m0_142, m0_143, m0_144, m0_147, m0_148, m0_150, m0_153, m0_154, m0_155, m0_158, m0_159, m0_160, m0_163, m0_164, m0_165, m0_168, m0_169, m0_172, m1_0, m1_1, m1_2, m1_5, m1_6, m1_7, m1_10, m1_11, m1_12, m1_15, m1_16, m1_17, m1_20, m1_21, m1_22, m1_25, m2_0, m2_1, m2_4, m2_5, m2_8, m2_11, m2_12, m2_13, m2_16, m2_17, m2_18, m2_19, m2_20, m2_23, m2_24, m2_25, m2_26, m2_27, m2_30, m2_31, m2_32, m2_33, m2_34, m2_37, m2_38, m2_39, m2_40, m2_41, m2_44, m2_45, m2_46, m2_47, m2_48, m2_50, m2_51u, m2_52, m2_53u, m2_54, m2_55, m2_57, m2_60, m2_61, m2_64, m2_65, m2_66, m2_67, m2_68, m2_69, m2_72, m2_75, m3_0, m3_1, m3_4, m3_5, m3_6, m3_9, m3_12, m3_13, m3_14, m3_15, m3_18, m3_19, m3_22, m3_25, m3_26, m3_27, m3_28, m3_31, m3_32, m3_35, m3_36, m3_37, m3_38, m3_39, m3_42, m3_43, m3_44, m3_47, m3_48, m3_49, m3_52, m3_53, m4_0, m4_1, m4_4, m4_5, m4_6, m4_9, m4_12, m4_13, m4_16, m4_17, m4_19, m4_22, m4_23, m4_24, m4_27u, m4_28, m4_29, m4_30, m4_33, m4_34, m4_35, m4_38, m4_39, m4_40, m4_43, m4_44, m4_47, m4_48, m4_49, m4_52, m4_53, m4_56, m4_57, m4_58, m4_59, m4_60, m4_61, m4_64, m4_65, m4_66, m4_69, m4_70, m4_71, m4_72, m4_73, m4_74, m4_75, m4_76, m4_79, m4_80, m4_81, m4_84u, m4_85, m4_86, m4_89, m4_90, m4_93, m4_94, m4_95, m4_96, m4_99, m4_100, m4_103, m4_104, m4_106, m4_107, m4_108, m4_109, m4_110u, m4_112, m4_113, m4_116, m4_117, m4_118, m4_119, m4_120, m4_121, m4_124, m4_126, m4_127, m4_130, m4_131, m4_134, m4_135, m4_137, m4_138, m4_141, m4_142, m4_143, m4_144, m4_146, m4_147, m4_150, m4_151, m4_152, m4_155, m4_156, m4_157, m4_160, m4_161, m4_164, m4_165, m4_166, m4_167, m4_170, m4_171, m4_174, m4_175, m4_176, m4_177, m4_178, m4_179, m4_182, m4_183, m4_184, m4_187, m5_0, m5_1u, m5_3, m5_4u, m5_6, m5_8, m5_11, m5_14, m5_16, m5_19, m5_20, m5_23, m5_25, m5_27, m5_28, m5_29, m5_30, m5_31, m5_34, m5_35, m5_38, m5_40, m5_42, m5_43, m5_44, m5_45, m5_46, m5_47, m5_48, m5_51, m5_53, m5_54i, m5_56, m5_59, m5_62, m5_64, m6_0, m6_1, m6_4, m6_5, m6_6, m6_9, m6_12, m6_13, m6_14, m6_15, m6_18, m6_20, m6_23, m6_24, m6_25, m6_26, m6_29, m6_30, m6_33, m6_34, m6_35, m6_36, m6_37, m6_40, m6_41, m6_42, m6_45, m6_46, m7_0, m7_1, m7_4, m8_0, m8_1, m8_4, m9_0, m9_1, m9_4, m9_7, m9_8, m9_9, m9_10, m9_13, m9_14, m9_17, m9_20, m9_21, m9_22, m9_23, m9_26, m9_27, m9_30, m9_31, m9_34, m9_35, m10_0, m10_1u, m10_2, m10_3u, m10_4, m10_5, m10_6, m10_9, m10_12, m10_13, m10_15, m10_18, m10_19, m10_22, m10_23, m10_24u, m10_24i, m10_24r, m10_25, m10_26, m10_29, m10_30, m10_32, m10_35, m10_36, m10_37, m10_38, m10_41, m10_42, m10_44, m10_45, m10_46, m10_47, m10_48u, m10_48i, m10_48r, m10_50, m10_52, m10_55, m10_56, m10_57, m10_59i, m10_60, m10_63, m10_66, m10_67, m11_0, m11_1, m11_4, m11_7, m11_8, m11_11, m11_12, m11_13, m11_14, m11_15, m11_18, m11_19, m11_22, m11_25, m11_26, m11_27, m11_28, m11_31u, m11_32, m11_33, m11_34, m11_37, m11_38, m11_39, m11_40, m11_43, m11_44, m11_47, m11_48, m11_49, m12_0, m12_1, m12_4, m12_7, m12_8, m12_9, m12_12, m12_13u, m12_14, m12_15, m12_16, m12_19, m12_22, m12_23, m12_26, m12_29, m12_30, m12_33, m12_34, m12_35, m12_38, m12_39, m12_42, m12_43, m12_44, m12_47, m12_48, m12_51, m12_52, m12_53, m12_56, m12_59, m12_60, m12_63, m12_64, m12_65i, m12_66, m12_67, m12_68, m12_71, m12_72, m12_75, m12_76, m12_77u, m12_77i, m12_77r, m12_78, m12_79, m12_82, m12_83, m12_84u, m12_84i, m12_84r, m12_85, m12_86, m12_89, m12_90, m12_93, m12_94, m12_95, m12_96, m12_97, m12_100, m12_101, m12_102, m12_103, m12_104, m12_107, m12_110, m12_111, m12_112, m12_115, m13_0, m13_1u, m13_2, m13_3, m13_5, m13_8, m13_9, m13_12, m13_13, m13_14, m13_15, m13_18, m13_21, m13_22i, m13_23, m13_24, m13_25, m13_28, m13_31, m13_32, m13_35, m13_38, m13_39, m13_42, m13_43, m13_46, m13_47, m13_48, m13_49, m13_50, m13_51, m13_52, m13_53, m13_56, m13_59, m13_60i, m13_61, m13_62, m13_64, m13_67, m13_68, m13_71, m13_72, m13_73, m13_74, m13_75, m13_78, m13_79, m13_80, m13_81, m13_82, m13_83, m13_84, m13_87, m13_90, m13_91, m13_94, m13_95, m13_96i, m13_97, m13_98, m13_101, m13_102, m13_105, m13_106, m13_107u, m13_107i, m13_107r, m13_108, m13_109, m13_112, m13_113, m13_114, m13_115, m13_116, m13_117, m13_118, m13_119, m13_122, m13_123, m13_124u, m13_124i, m13_124r, m13_125, m13_126, m13_129, m13_130, m13_133, m13_136, m13_137, m13_140, m13_141, m13_142, m13_143, m13_146, m13_149, m14_0, m14_1, m14_4, m14_7, m14_8, m14_9, m14_10, m14_13, m14_14, m14_17, m14_20, m14_21, m14_22, m14_23, m14_26u, m14_27, m14_28, m14_29, m14_32, m14_33, m14_34, m14_35, m14_38, m14_39, m14_40, m14_41, m14_44, m14_45, m14_46, m14_47, m15_0, m15_1, m15_4, m15_5, m15_6, m15_9, m15_12, m15_13, m15_14, m15_15u, m15_16, m15_17u, m15_18, m15_19, m15_20, m15_23, m15_26, m15_27, m15_30, m15_33, m15_34, m15_37, m15_38, m15_39u, m15_39i, m15_39r, m15_41, m15_43, m15_46, m15_47, m15_50, m15_52, m15_53, m15_54, m15_57, m15_58, m15_59, m15_62, m15_63, m15_64, m15_67, m15_70, m15_73, m15_76, m15_77, m16_0, m16_1, m16_4, m17_0, m17_1, m17_4u, m17_6, m17_7, m17_8, m17_11, m17_12, m17_13, m17_16, m17_17, m17_19, m17_22, m17_23, m17_26, m17_28, m17_29, m17_32, m17_33, m17_34, m17_35, m17_36, m17_37, m17_38, m17_41, m17_43, m17_44, m17_47, m17_48, m17_49, m17_50, m17_51, m17_54, m17_56, m17_57, m17_60, m17_61, m17_62, m17_63, m17_64, m17_67, m17_69, m17_70, m17_71, m17_72, m17_74, m17_75u, m17_77, m17_79, m17_81, m17_82u, m17_84, m17_85u, m17_87, m17_89, m17_91, m17_94, m17_95, m17_98, m17_100, m17_102, m17_103, m17_104, m17_107, m17_109, m17_111, m17_112, m17_113, m17_114, m17_117, m17_120, m17_121i, m17_123, m17_124u, m17_126, m17_128, m17_131, m17_134, m17_136, m17_139, m17_140, m17_143, m17_145, m17_147, m17_148, m17_149, m17_150, m17_151, m17_152, m17_155, m17_156, m17_159, m17_161, m17_163, m17_164, m17_165, m17_166, m17_168, m17_169, m17_170, m17_173, m17_175, m17_176i, m17_178, m17_181, m17_184, m17_185, m17_188, m17_189, m17_191, m17_192, m17_193, m17_196, m17_198, m17_200, m17_201, m18_0, m18_1, m18_2, m18_3u, m18_5, m18_6, m18_7, m18_8u, m18_10, m18_11, m18_12, m18_13u, m18_15, m18_16, m18_17, m18_18u, m18_20, m18_22, m18_23, m18_24u, m18_26, m18_28, m18_29, m18_30u, m18_32, m18_35, m18_36, m18_37, m18_39, m18_42u, m18_44, m18_46, m18_48, m18_51, m18_54, m18_55, m18_56, m18_58, m18_60, m18_63, m18_66, m18_67, m18_68, m18_70, m18_72, m18_75, m18_78, m18_79, m18_80, m18_82, m18_84, m18_87, m18_90, m18_91, m18_92, m18_94, m18_96, m18_99, m18_102, m18_103, m18_104, m18_106, m18_108, m18_111, m18_114, m18_115, m18_116, m18_118, m18_121, m18_122, m18_125, m18_127, m18_130, m18_131, m18_134, m18_135, m18_136, m18_138, m18_140, m18_143, m18_145, m18_147, m18_150, m18_151, m18_154, m18_155u, m18_157, m18_159, m18_161, m18_164, m18_166, m18_168, m18_171, m18_172, m18_175, m18_176u, m18_178, m18_180, m18_182, m18_185, m18_187, m18_189, m18_192, m18_193, m18_196, m18_197u, m18_199, m18_201, m18_203, m18_204, m18_206, m18_207u, m18_209, m18_211, m18_212, m18_215, m18_216, m18_219, m18_221, m18_222, m18_225, m18_226, m18_229, m18_231, m18_232, m18_235, m18_236, m18_239, m18_240u, m18_242, m18_244, m18_247, m18_249, m18_252, m18_253, m18_256, m18_257, m18_260, m18_261, m18_262, m18_264, m18_267, m18_269, m18_272, m18_273, m18_274, m18_276, m18_279, m18_281, m18_284, m18_285, m18_286, m18_288, m18_290, m18_293, m18_295, m18_297, m18_300, m18_302, m18_304, m18_307, m18_308, m18_311, m18_312u, m18_314, m18_315, m18_317, m18_318, m18_320, m18_321u, m18_323, m18_324, m18_326, m18_327, m18_329, m18_330u, m18_332, m18_333, m18_335, m18_336, m18_338, m18_339u, m18_341, m18_342, m18_344, m18_346, m18_349, m18_350, m18_353, m18_354, m18_355, m18_357, m18_359, m18_362, m18_364, m18_366, m18_369, m18_370, m18_373, m18_374, m18_375u, m18_377, m18_378, m18_380, m18_381, m18_382, m18_384, m18_385, m18_386, m18_388, m18_389u, m18_391, m18_392, m18_394, m18_395, m18_396, m18_398, m18_399, m18_400, m18_402, m18_403u, m18_405, m18_407, m18_409, m18_412, m18_413, m18_416, m18_417u, m18_419, m18_421, m18_422, m18_425, m18_428, m18_429, m18_430, m18_432, m18_433, m18_436, m18_438, m18_441, m18_442, m18_443, m18_445, m18_446, m18_449, m18_451, m18_454, m18_455, m18_456, m18_458, m18_459, m18_462, m18_464, m18_467, m18_468, m18_469, m18_471, m18_472, m18_475, m18_476, m18_479, m18_480, m18_481, m18_483, m18_484, m18_487, m18_490, m18_491, m18_492, m18_494, m18_497, m18_499, m18_501, m18_502, m18_504, m18_505, m18_506, m18_507, m18_510, m18_511, m18_514, m18_515, nb0, nb1, ou_a, Option.toList_some, Option.toList_none, List.nil_append, List.cons_append, ou_same, ou_comm, setA_same, getA_set2, setA_len, inB_iff, A0g_0, A0g_1, A0g_2, A0g_3, A0g_4, A0g_5, A0g_6, A0g_7, A0g_8, A0g_9, A0g_10, A0l_0, A0l_1, A0l_2, A0l_3, A0l_4, A0l_5, A0l_6, A0l_7, A0l_8, A0l_9, A0l_10]
    refine ⟨?_, ?_⟩ <;> simp only [ou_a, setA_len, put_len, put_tot, pad_0, tot_nil, List.length_nil, List.length_cons, A0l_0, A0l_1, A0l_2, A0l_3, A0l_4, A0l_5, A0l_6, A0l_7, A0l_8, A0l_9, A0l_10] <;> simp [setA_len, put_len, put_tot, pad_0, tot_nil, List.length_nil, List.length_cons, A0l_0, A0l_1, A0l_2, A0l_3, A0l_4, A0l_5, A0l_6, A0l_7, A0l_8, A0l_9, A0l_10]
set_option maxRecDepth 1000000 in
set_option maxHeartbeats 20000000 in
theorem own_t0100 (i0 : Int32) (i1 : Int32) (i2 : Int32) (i3 : Int32) (i4 : Int32) (i5 : Int32) (e0 : i0 &&& 1 = 0) (e1 : i1 &&& 1 = 1) (e2 : i2 &&& 1 = 0) (e3 : i3 &&& 1 = 0) : W tables_1 dn 0 x code ret 0 (entry [.int i0, .int i1, .int i2, .int i3, .int i4, .int i5] maxLocals) [] [] (fun v H1 => v = some (.int 1) ∧ H1.length - ([] : AHeap).length ≤ 32 ∧ tot tables_1 H1 - tot tables_1 [] ≤ 4224) := by
  show M18 0 [.val (.int i0), .val (.int i1), .val (.int i2), .val (.int i3), .val (.int i4), .val (.int i5), .unset, .unset, .unset, .unset, .unset, .unset, .unset, .unset, .unset, .unset, .unset, .unset, .unset, .unset, .unset, .unset, .unset, .unset, .unset, .unset] [] [] _
  rw [m18_0, m18_1, m18_2, m18_3u, m18_5, m18_6, m18_7, m18_8u, m18_10, m18_11, m18_12, m18_13u, m18_15, m18_16, m18_17, m18_18u, m18_20, m18_22, m18_23, m18_24u, m18_26, m18_28, m18_29, m18_30u, m18_32, m18_35, m18_36, m18_37, m18_39, own_ctor0 rfl]
  rcases own_bit i4 with e4 | e4 <;> rcases own_bit i5 with e5 | e5 <;>
  · simp (maxSteps := 10000000) [e0, e1, e2, e3, e4, e5, m0_0, m0_1, m0_4, m0_5, m0_12, m0_13, m0_20, m0_21, m0_28, m0_29, m0_37, m0_38, m0_46, m0_47, m0_55, m0_56, m0_64, m0_65, m0_73, m0_74, m0_82, m0_83, m0_91, m0_92, m0_99, m0_100u, m0_101, m0_102, m0_103, m0_106, m0_107i, m0_108, m0_109, m0_111, m0_114, m0_116i, m0_117, m0_118u, m0_120, m0_122, m0_124, m0_127, m0_129i, m0_131, m0_133, m0_135, m0_138, m0_140i, m0_142, m0_143, m0_144, m0_147, m0_148, m0_150, m0_153, m0_154, m0_155, m0_158, m0_159, m0_160, m0_163, m0_164, m0_165, m0_168, m0_169, m0_172, m1_0, m1_1, m1_2, m1_5, m1_6, m1_7, m1_10, m1_11, m1_12, m1_15, m1_16, m1_17, m1_20, m1_21, m1_22, m1_25, m2_0, m2_1, m2_4, m2_5, m2_8, m2_11, m2_12, m2_13, m2_16, m2_17, m2_18, m2_19, m2_20, m2_23, m2_24, m2_25, m2_26, m2_27, m2_30, m2_31, m2_32, m2_33, m2_34, m2_37, m2_38, m2_39, m2_40, m2_41, m2_44, m2_45, m2_46, m2_47, m2_48, m2_50, m2_51u, m2_52, m2_53u, m2_54, m2_55, m2_57, m2_60, m2_61, m2_64, m2_65, m2_66, m2_67, m2_68, m2_69, m2_72, m2_75, m3_0, m3_1, m3_4, m3_5, m3_6, m3_9, m3_12, m3_13, m3_14, m3_15, m3_18, m3_19, m3_22, m3_25, m3_26, m3_27, m3_28, m3_31, m3_32, m3_35, m3_36, m3_37, m3_38, m3_39, m3_42, m3_43, m3_44, m3_47, m3_48, m3_49, m3_52, m3_53, m4_0, m4_1, m4_4, m4_5, m4_6, m4_9, m4_12, m4_13, m4_16, m4_17, m4_19, m4_22, m4_23, m4_24, m4_27u, m4_28, m4_29, m4_30, m4_33, m4_34, m4_35, m4_38, m4_39, m4_40, m4_43, m4_44, m4_47, m4_48, m4_49, m4_52, m4_53, m4_56, m4_57, m4_58, m4_59, m4_60, m4_61, m4_64, m4_65, m4_66, m4_69, m4_70, m4_71, m4_72, m4_73, m4_74, m4_75, m4_76, m4_79, m4_80, m4_81, m4_84u, m4_85, m4_86, m4_89, m4_90, m4_93, m4_94, m4_95, m4_96, m4_99, m4_100, m4_103, m4_104, m4_106, m4_107, m4_108, m4_109, m4_110u, m4_112, m4_113, m4_116, m4_117, m4_118, m4_119, m4_120, m4_121, m4_124, m4_126, m4_127, m4_130, m4_131, m4_134, m4_135, m4_137, m4_138, m4_141, m4_142, m4_143, m4_144, m4_146, m4_147, m4_150, m4_151, m4_152, m4_155, m4_156, m4_157, m4_160, m4_161, m4_164, m4_165, m4_166, m4_167, m4_170, m4_171, m4_174, m4_175, m4_176, m4_177, m4_178, m4_179, m4_182, m4_183, m4_184, m4_187, m5_0, m5_1u, m5_3, m5_4u, m5_6, m5_8, m5_11, m5_14, m5_16, m5_19, m5_20, m5_23, m5_25, m5_27, m5_28, m5_29, m5_30, m5_31, m5_34, m5_35, m5_38, m5_40, m5_42, m5_43, m5_44, m5_45, m5_46, m5_47, m5_48, m5_51, m5_53, m5_54i, m5_56, m5_59, m5_62, m5_64, m6_0, m6_1, m6_4, m6_5, m6_6, m6_9, m6_12, m6_13, m6_14, m6_15, m6_18, m6_20, m6_23, m6_24, m6_25, m6_26, m6_29, m6_30, m6_33, m6_34, m6_35, m6_36, m6_37, m6_40, m6_41, m6_42, m6_45, m6_46, m7_0, m7_1, m7_4, m8_0, m8_1, m8_4, m9_0, m9_1, m9_4, m9_7, m9_8, m9_9, m9_10, m9_13, m9_14, m9_17, m9_20, m9_21, m9_22, m9_23, m9_26, m9_27, m9_30, m9_31, m9_34, m9_35, m10_0, m10_1u, m10_2, m10_3u, m10_4, m10_5, m10_6, m10_9, m10_12, m10_13, m10_15, m10_18, m10_19, m10_22, m10_23, m10_24u, m10_24i, m10_24r, m10_25, m10_26, m10_29, m10_30, m10_32, m10_35, m10_36, m10_37, m10_38, m10_41, m10_42, m10_44, m10_45, m10_46, m10_47, m10_48u, m10_48i, m10_48r, m10_50, m10_52, m10_55, m10_56, m10_57, m10_59i, m10_60, m10_63, m10_66, m10_67, m11_0, m11_1, m11_4, m11_7, m11_8, m11_11, m11_12, m11_13, m11_14, m11_15, m11_18, m11_19, m11_22, m11_25, m11_26, m11_27, m11_28, m11_31u, m11_32, m11_33, m11_34, m11_37, m11_38, m11_39, m11_40, m11_43, m11_44, m11_47, m11_48, m11_49, m12_0, m12_1, m12_4, m12_7, m12_8, m12_9, m12_12, m12_13u, m12_14, m12_15, m12_16, m12_19, m12_22, m12_23, m12_26, m12_29, m12_30, m12_33, m12_34, m12_35, m12_38, m12_39, m12_42, m12_43, m12_44, m12_47, m12_48, m12_51, m12_52, m12_53, m12_56, m12_59, m12_60, m12_63, m12_64, m12_65i, m12_66, m12_67, m12_68, m12_71, m12_72, m12_75, m12_76, m12_77u, m12_77i, m12_77r, m12_78, m12_79, m12_82, m12_83, m12_84u, m12_84i, m12_84r, m12_85, m12_86, m12_89, m12_90, m12_93, m12_94, m12_95, m12_96, m12_97, m12_100, m12_101, m12_102, m12_103, m12_104, m12_107, m12_110, m12_111, m12_112, m12_115, m13_0, m13_1u, m13_2, m13_3, m13_5, m13_8, m13_9, m13_12, m13_13, m13_14, m13_15, m13_18, m13_21, m13_22i, m13_23, m13_24, m13_25, m13_28, m13_31, m13_32, m13_35, m13_38, m13_39, m13_42, m13_43, m13_46, m13_47, m13_48, m13_49, m13_50, m13_51, m13_52, m13_53, m13_56, m13_59, m13_60i, m13_61, m13_62, m13_64, m13_67, m13_68, m13_71, m13_72, m13_73, m13_74, m13_75, m13_78, m13_79, m13_80, m13_81, m13_82, m13_83, m13_84, m13_87, m13_90, m13_91, m13_94, m13_95, m13_96i, m13_97, m13_98, m13_101, m13_102, m13_105, m13_106, m13_107u, m13_107i, m13_107r, m13_108, m13_109, m13_112, m13_113, m13_114, m13_115, m13_116, m13_117, m13_118, m13_119, m13_122, m13_123, m13_124u, m13_124i, m13_124r, m13_125, m13_126, m13_129, m13_130, m13_133, m13_136, m13_137, m13_140, m13_141, m13_142, m13_143, m13_146, m13_149, m14_0, m14_1, m14_4, m14_7, m14_8, m14_9, m14_10, m14_13, m14_14, m14_17, m14_20, m14_21, m14_22, m14_23, m14_26u, m14_27, m14_28, m14_29, m14_32, m14_33, m14_34, m14_35, m14_38, m14_39, m14_40, m14_41, m14_44, m14_45, m14_46, m14_47, m15_0, m15_1, m15_4, m15_5, m15_6, m15_9, m15_12, m15_13, m15_14, m15_15u, m15_16, m15_17u, m15_18, m15_19, m15_20, m15_23, m15_26, m15_27, m15_30, m15_33, m15_34, m15_37, m15_38, m15_39u, m15_39i, m15_39r, m15_41, m15_43, m15_46, m15_47, m15_50, m15_52, m15_53, m15_54, m15_57, m15_58, m15_59, m15_62, m15_63, m15_64, m15_67, m15_70, m15_73, m15_76, m15_77, m16_0, m16_1, m16_4, m17_0, m17_1, m17_4u, m17_6, m17_7, m17_8, m17_11, m17_12, m17_13, m17_16, m17_17, m17_19, m17_22, m17_23, m17_26, m17_28, m17_29, m17_32, m17_33, m17_34, m17_35, m17_36, m17_37, m17_38, m17_41, m17_43, m17_44, m17_47, m17_48, m17_49, m17_50, m17_51, m17_54, m17_56, m17_57, m17_60, m17_61, m17_62, m17_63, m17_64, m17_67, m17_69, m17_70, m17_71, m17_72, m17_74, m17_75u, m17_77, m17_79, m17_81, m17_82u, m17_84, m17_85u, m17_87, m17_89, m17_91, m17_94, m17_95, m17_98, m17_100, m17_102, m17_103, m17_104, m17_107, m17_109, m17_111, m17_112, m17_113, m17_114, m17_117, m17_120, m17_121i, m17_123, m17_124u, m17_126, m17_128, m17_131, m17_134, m17_136, m17_139, m17_140, m17_143, m17_145, m17_147, m17_148, m17_149, m17_150, m17_151, m17_152, m17_155, m17_156, m17_159, m17_161, m17_163, m17_164, m17_165, m17_166, m17_168, m17_169, m17_170, m17_173, m17_175, m17_176i, m17_178, m17_181, m17_184, m17_185, m17_188, m17_189, m17_191, m17_192, m17_193, m17_196, m17_198, m17_200, m17_201, m18_0, m18_1, m18_2, m18_3u, m18_5, m18_6, m18_7, m18_8u, m18_10, m18_11, m18_12, m18_13u, m18_15, m18_16, m18_17, m18_18u, m18_20, m18_22, m18_23, m18_24u, m18_26, m18_28, m18_29, m18_30u, m18_32, m18_35, m18_36, m18_37, m18_39, m18_42u, m18_44, m18_46, m18_48, m18_51, m18_54, m18_55, m18_56, m18_58, m18_60, m18_63, m18_66, m18_67, m18_68, m18_70, m18_72, m18_75, m18_78, m18_79, m18_80, m18_82, m18_84, m18_87, m18_90, m18_91, m18_92, m18_94, m18_96, m18_99, m18_102, m18_103, m18_104, m18_106, m18_108, m18_111, m18_114, m18_115, m18_116, m18_118, m18_121, m18_122, m18_125, m18_127, m18_130, m18_131, m18_134, m18_135, m18_136, m18_138, m18_140, m18_143, m18_145, m18_147, m18_150, m18_151, m18_154, m18_155u, m18_157, m18_159, m18_161, m18_164, m18_166, m18_168, m18_171, m18_172, m18_175, m18_176u, m18_178, m18_180, m18_182, m18_185, m18_187, m18_189, m18_192, m18_193, m18_196, m18_197u, m18_199, m18_201, m18_203, m18_204, m18_206, m18_207u, m18_209, m18_211, m18_212, m18_215, m18_216, m18_219, m18_221, m18_222, m18_225, m18_226, m18_229, m18_231, m18_232, m18_235, m18_236, m18_239, m18_240u, m18_242, m18_244, m18_247, m18_249, m18_252, m18_253, m18_256, m18_257, m18_260, m18_261, m18_262, m18_264, m18_267, m18_269, m18_272, m18_273, m18_274, m18_276, m18_279, m18_281, m18_284, m18_285, m18_286, m18_288, m18_290, m18_293, m18_295, m18_297, m18_300, m18_302, m18_304, m18_307, m18_308, m18_311, m18_312u, m18_314, m18_315, m18_317, m18_318, m18_320, m18_321u, m18_323, m18_324, m18_326, m18_327, m18_329, m18_330u, m18_332, m18_333, m18_335, m18_336, m18_338, m18_339u, m18_341, m18_342, m18_344, m18_346, m18_349, m18_350, m18_353, m18_354, m18_355, m18_357, m18_359, m18_362, m18_364, m18_366, m18_369, m18_370, m18_373, m18_374, m18_375u, m18_377, m18_378, m18_380, m18_381, m18_382, m18_384, m18_385, m18_386, m18_388, m18_389u, m18_391, m18_392, m18_394, m18_395, m18_396, m18_398, m18_399, m18_400, m18_402, m18_403u, m18_405, m18_407, m18_409, m18_412, m18_413, m18_416, m18_417u, m18_419, m18_421, m18_422, m18_425, m18_428, m18_429, m18_430, m18_432, m18_433, m18_436, m18_438, m18_441, m18_442, m18_443, m18_445, m18_446, m18_449, m18_451, m18_454, m18_455, m18_456, m18_458, m18_459, m18_462, m18_464, m18_467, m18_468, m18_469, m18_471, m18_472, m18_475, m18_476, m18_479, m18_480, m18_481, m18_483, m18_484, m18_487, m18_490, m18_491, m18_492, m18_494, m18_497, m18_499, m18_501, m18_502, m18_504, m18_505, m18_506, m18_507, m18_510, m18_511, m18_514, m18_515, nb0, nb1, ou_a, Option.toList_some, Option.toList_none, List.nil_append, List.cons_append, ou_same, ou_comm, setA_same, getA_set2, setA_len, inB_iff, A0g_0, A0g_1, A0g_2, A0g_3, A0g_4, A0g_5, A0g_6, A0g_7, A0g_8, A0g_9, A0g_10, A0l_0, A0l_1, A0l_2, A0l_3, A0l_4, A0l_5, A0l_6, A0l_7, A0l_8, A0l_9, A0l_10]
    refine ⟨?_, ?_⟩ <;> simp only [ou_a, setA_len, put_len, put_tot, pad_0, tot_nil, List.length_nil, List.length_cons, A0l_0, A0l_1, A0l_2, A0l_3, A0l_4, A0l_5, A0l_6, A0l_7, A0l_8, A0l_9, A0l_10] <;> simp [setA_len, put_len, put_tot, pad_0, tot_nil, List.length_nil, List.length_cons, A0l_0, A0l_1, A0l_2, A0l_3, A0l_4, A0l_5, A0l_6, A0l_7, A0l_8, A0l_9, A0l_10]
set_option maxRecDepth 1000000 in
set_option maxHeartbeats 20000000 in
theorem own_t1100 (i0 : Int32) (i1 : Int32) (i2 : Int32) (i3 : Int32) (i4 : Int32) (i5 : Int32) (e0 : i0 &&& 1 = 1) (e1 : i1 &&& 1 = 1) (e2 : i2 &&& 1 = 0) (e3 : i3 &&& 1 = 0) : W tables_1 dn 0 x code ret 0 (entry [.int i0, .int i1, .int i2, .int i3, .int i4, .int i5] maxLocals) [] [] (fun v H1 => v = some (.int 1) ∧ H1.length - ([] : AHeap).length ≤ 32 ∧ tot tables_1 H1 - tot tables_1 [] ≤ 4224) := by
  show M18 0 [.val (.int i0), .val (.int i1), .val (.int i2), .val (.int i3), .val (.int i4), .val (.int i5), .unset, .unset, .unset, .unset, .unset, .unset, .unset, .unset, .unset, .unset, .unset, .unset, .unset, .unset, .unset, .unset, .unset, .unset, .unset, .unset] [] [] _
  rw [m18_0, m18_1, m18_2, m18_3u, m18_5, m18_6, m18_7, m18_8u, m18_10, m18_11, m18_12, m18_13u, m18_15, m18_16, m18_17, m18_18u, m18_20, m18_22, m18_23, m18_24u, m18_26, m18_28, m18_29, m18_30u, m18_32, m18_35, m18_36, m18_37, m18_39, own_ctor0 rfl]
  rcases own_bit i4 with e4 | e4 <;> rcases own_bit i5 with e5 | e5 <;>
  · simp (maxSteps := 10000000) [e0, e1, e2, e3, e4, e5, m0_0, m0_1, m0_4, m0_5, m0_12, m0_13, m0_20, m0_21, m0_28, m0_29, m0_37, m0_38, m0_46, m0_47, m0_55, m0_56, m0_64, m0_65, m0_73, m0_74, m0_82, m0_83, m0_91, m0_92, m0_99, m0_100u, m0_101, m0_102, m0_103, m0_106, m0_107i, m0_108, m0_109, m0_111, m0_114, m0_116i, m0_117, m0_118u, m0_120, m0_122, m0_124, m0_127, m0_129i, m0_131, m0_133, m0_135, m0_138, m0_140i, m0_142, m0_143, m0_144, m0_147, m0_148, m0_150, m0_153, m0_154, m0_155, m0_158, m0_159, m0_160, m0_163, m0_164, m0_165, m0_168, m0_169, m0_172, m1_0, m1_1, m1_2, m1_5, m1_6, m1_7, m1_10, m1_11, m1_12, m1_15, m1_16, m1_17, m1_20, m1_21, m1_22, m1_25, m2_0, m2_1, m2_4, m2_5, m2_8, m2_11, m2_12, m2_13, m2_16, m2_17, m2_18, m2_19, m2_20, m2_23, m2_24, m2_25, m2_26, m2_27, m2_30, m2_31, m2_32, m2_33, m2_34, m2_37, m2_38, m2_39, m2_40, m2_41, m2_44, m2_45, m2_46, m2_47, m2_48, m2_50, m2_51u, m2_52, m2_53u, m2_54, m2_55, m2_57, m2_60, m2_61, m2_64, m2_65, m2_66, m2_67, m2_68, m2_69, m2_72, m2_75, m3_0, m3_1, m3_4, m3_5, m3_6, m3_9, m3_12, m3_13, m3_14, m3_15, m3_18, m3_19, m3_22, m3_25, m3_26, m3_27, m3_28, m3_31, m3_32, m3_35, m3_36, m3_37, m3_38, m3_39, m3_42, m3_43, m3_44, m3_47, m3_48, m3_49, m3_52, m3_53, m4_0, m4_1, m4_4, m4_5, m4_6, m4_9, m4_12, m4_13, m4_16, m4_17, m4_19, m4_22, m4_23, m4_24, m4_27u, m4_28, m4_29, m4_30, m4_33, m4_34, m4_35, m4_38, m4_39, m4_40, m4_43, m4_44, m4_47, m4_48, m4_49, m4_52, m4_53, m4_56, m4_57, m4_58, m4_59, m4_60, m4_61, m4_64, m4_65, m4_66, m4_69, m4_70, m4_71, m4_72, m4_73, m4_74, m4_75, m4_76, m4_79, m4_80, m4_81, m4_84u, m4_85, m4_86, m4_89, m4_90, m4_93, m4_94, m4_95, m4_96, m4_99, m4_100, m4_103, m4_104, m4_106, m4_107, m4_108, m4_109, m4_110u, m4_112, m4_113, m4_116, m4_117, m4_118, m4_119, m4_120, m4_121, m4_124, m4_126, m4_127, m4_130, m4_131, m4_134, m4_135, m4_137, m4_138, m4_141, m4_142, m4_143, m4_144, m4_146, m4_147, m4_150, m4_151, m4_152, m4_155, m4_156, m4_157, m4_160, m4_161, m4_164, m4_165, m4_166, m4_167, m4_170, m4_171, m4_174, m4_175, m4_176, m4_177, m4_178, m4_179, m4_182, m4_183, m4_184, m4_187, m5_0, m5_1u, m5_3, m5_4u, m5_6, m5_8, m5_11, m5_14, m5_16, m5_19, m5_20, m5_23, m5_25, m5_27, m5_28, m5_29, m5_30, m5_31, m5_34, m5_35, m5_38, m5_40, m5_42, m5_43, m5_44, m5_45, m5_46, m5_47, m5_48, m5_51, m5_53, m5_54i, m5_56, m5_59, m5_62, m5_64, m6_0, m6_1, m6_4, m6_5, m6_6, m6_9, m6_12, m6_13, m6_14, m6_15, m6_18, m6_20, m6_23, m6_24, m6_25, m6_26, m6_29, m6_30, m6_33, m6_34, m6_35, m6_36, m6_37, m6_40, m6_41, m6_42, m6_45, m6_46, m7_0, m7_1, m7_4, m8_0, m8_1, m8_4, m9_0, m9_1, m9_4, m9_7, m9_8, m9_9, m9_10, m9_13, m9_14, m9_17, m9_20, m9_21, m9_22, m9_23, m9_26, m9_27, m9_30, m9_31, m9_34, m9_35, m10_0, m10_1u, m10_2, m10_3u, m10_4, m10_5, m10_6, m10_9, m10_12, m10_13, m10_15, m10_18, m10_19, m10_22, m10_23, m10_24u, m10_24i, m10_24r, m10_25, m10_26, m10_29, m10_30, m10_32, m10_35, m10_36, m10_37, m10_38, m10_41, m10_42, m10_44, m10_45, m10_46, m10_47, m10_48u, m10_48i, m10_48r, m10_50, m10_52, m10_55, m10_56, m10_57, m10_59i, m10_60, m10_63, m10_66, m10_67, m11_0, m11_1, m11_4, m11_7, m11_8, m11_11, m11_12, m11_13, m11_14, m11_15, m11_18, m11_19, m11_22, m11_25, m11_26, m11_27, m11_28, m11_31u, m11_32, m11_33, m11_34, m11_37, m11_38, m11_39, m11_40, m11_43, m11_44, m11_47, m11_48, m11_49, m12_0, m12_1, m12_4, m12_7, m12_8, m12_9, m12_12, m12_13u, m12_14, m12_15, m12_16, m12_19, m12_22, m12_23, m12_26, m12_29, m12_30, m12_33, m12_34, m12_35, m12_38, m12_39, m12_42, m12_43, m12_44, m12_47, m12_48, m12_51, m12_52, m12_53, m12_56, m12_59, m12_60, m12_63, m12_64, m12_65i, m12_66, m12_67, m12_68, m12_71, m12_72, m12_75, m12_76, m12_77u, m12_77i, m12_77r, m12_78, m12_79, m12_82, m12_83, m12_84u, m12_84i, m12_84r, m12_85, m12_86, m12_89, m12_90, m12_93, m12_94, m12_95, m12_96, m12_97, m12_100, m12_101, m12_102, m12_103, m12_104, m12_107, m12_110, m12_111, m12_112, m12_115, m13_0, m13_1u, m13_2, m13_3, m13_5, m13_8, m13_9, m13_12, m13_13, m13_14, m13_15, m13_18, m13_21, m13_22i, m13_23, m13_24, m13_25, m13_28, m13_31, m13_32, m13_35, m13_38, m13_39, m13_42, m13_43, m13_46, m13_47, m13_48, m13_49, m13_50, m13_51, m13_52, m13_53, m13_56, m13_59, m13_60i, m13_61, m13_62, m13_64, m13_67, m13_68, m13_71, m13_72, m13_73, m13_74, m13_75, m13_78, m13_79, m13_80, m13_81, m13_82, m13_83, m13_84, m13_87, m13_90, m13_91, m13_94, m13_95, m13_96i, m13_97, m13_98, m13_101, m13_102, m13_105, m13_106, m13_107u, m13_107i, m13_107r, m13_108, m13_109, m13_112, m13_113, m13_114, m13_115, m13_116, m13_117, m13_118, m13_119, m13_122, m13_123, m13_124u, m13_124i, m13_124r, m13_125, m13_126, m13_129, m13_130, m13_133, m13_136, m13_137, m13_140, m13_141, m13_142, m13_143, m13_146, m13_149, m14_0, m14_1, m14_4, m14_7, m14_8, m14_9, m14_10, m14_13, m14_14, m14_17, m14_20, m14_21, m14_22, m14_23, m14_26u, m14_27, m14_28, m14_29, m14_32, m14_33, m14_34, m14_35, m14_38, m14_39, m14_40, m14_41, m14_44, m14_45, m14_46, m14_47, m15_0, m15_1, m15_4, m15_5, m15_6, m15_9, m15_12, m15_13, m15_14, m15_15u, m15_16, m15_17u, m15_18, m15_19, m15_20, m15_23, m15_26, m15_27, m15_30, m15_33, m15_34, m15_37, m15_38, m15_39u, m15_39i, m15_39r, m15_41, m15_43, m15_46, m15_47, m15_50, m15_52, m15_53, m15_54, m15_57, m15_58, m15_59, m15_62, m15_63, m15_64, m15_67, m15_70, m15_73, m15_76, m15_77, m16_0, m16_1, m16_4, m17_0, m17_1, m17_4u, m17_6, m17_7, m17_8, m17_11, m17_12, m17_13, m17_16, m17_17, m17_19, m17_22, m17_23, m17_26, m17_28, m17_29, m17_32, m17_33, m17_34, m17_35, m17_36, m17_37, m17_38, m17_41, m17_43, m17_44, m17_47, m17_48, m17_49, m17_50, m17_51, m17_54, m17_56, m17_57, m17_60, m17_61, m17_62, m17_63, m17_64, m17_67, m17_69, m17_70, m17_71, m17_72, m17_74, m17_75u, m17_77, m17_79, m17_81, m17_82u, m17_84, m17_85u, m17_87, m17_89, m17_91, m17_94, m17_95, m17_98, m17_100, m17_102, m17_103, m17_104, m17_107, m17_109, m17_111, m17_112, m17_113, m17_114, m17_117, m17_120, m17_121i, m17_123, m17_124u, m17_126, m17_128, m17_131, m17_134, m17_136, m17_139, m17_140, m17_143, m17_145, m17_147, m17_148, m17_149, m17_150, m17_151, m17_152, m17_155, m17_156, m17_159, m17_161, m17_163, m17_164, m17_165, m17_166, m17_168, m17_169, m17_170, m17_173, m17_175, m17_176i, m17_178, m17_181, m17_184, m17_185, m17_188, m17_189, m17_191, m17_192, m17_193, m17_196, m17_198, m17_200, m17_201, m18_0, m18_1, m18_2, m18_3u, m18_5, m18_6, m18_7, m18_8u, m18_10, m18_11, m18_12, m18_13u, m18_15, m18_16, m18_17, m18_18u, m18_20, m18_22, m18_23, m18_24u, m18_26, m18_28, m18_29, m18_30u, m18_32, m18_35, m18_36, m18_37, m18_39, m18_42u, m18_44, m18_46, m18_48, m18_51, m18_54, m18_55, m18_56, m18_58, m18_60, m18_63, m18_66, m18_67, m18_68, m18_70, m18_72, m18_75, m18_78, m18_79, m18_80, m18_82, m18_84, m18_87, m18_90, m18_91, m18_92, m18_94, m18_96, m18_99, m18_102, m18_103, m18_104, m18_106, m18_108, m18_111, m18_114, m18_115, m18_116, m18_118, m18_121, m18_122, m18_125, m18_127, m18_130, m18_131, m18_134, m18_135, m18_136, m18_138, m18_140, m18_143, m18_145, m18_147, m18_150, m18_151, m18_154, m18_155u, m18_157, m18_159, m18_161, m18_164, m18_166, m18_168, m18_171, m18_172, m18_175, m18_176u, m18_178, m18_180, m18_182, m18_185, m18_187, m18_189, m18_192, m18_193, m18_196, m18_197u, m18_199, m18_201, m18_203, m18_204, m18_206, m18_207u, m18_209, m18_211, m18_212, m18_215, m18_216, m18_219, m18_221, m18_222, m18_225, m18_226, m18_229, m18_231, m18_232, m18_235, m18_236, m18_239, m18_240u, m18_242, m18_244, m18_247, m18_249, m18_252, m18_253, m18_256, m18_257, m18_260, m18_261, m18_262, m18_264, m18_267, m18_269, m18_272, m18_273, m18_274, m18_276, m18_279, m18_281, m18_284, m18_285, m18_286, m18_288, m18_290, m18_293, m18_295, m18_297, m18_300, m18_302, m18_304, m18_307, m18_308, m18_311, m18_312u, m18_314, m18_315, m18_317, m18_318, m18_320, m18_321u, m18_323, m18_324, m18_326, m18_327, m18_329, m18_330u, m18_332, m18_333, m18_335, m18_336, m18_338, m18_339u, m18_341, m18_342, m18_344, m18_346, m18_349, m18_350, m18_353, m18_354, m18_355, m18_357, m18_359, m18_362, m18_364, m18_366, m18_369, m18_370, m18_373, m18_374, m18_375u, m18_377, m18_378, m18_380, m18_381, m18_382, m18_384, m18_385, m18_386, m18_388, m18_389u, m18_391, m18_392, m18_394, m18_395, m18_396, m18_398, m18_399, m18_400, m18_402, m18_403u, m18_405, m18_407, m18_409, m18_412, m18_413, m18_416, m18_417u, m18_419, m18_421, m18_422, m18_425, m18_428, m18_429, m18_430, m18_432, m18_433, m18_436, m18_438, m18_441, m18_442, m18_443, m18_445, m18_446, m18_449, m18_451, m18_454, m18_455, m18_456, m18_458, m18_459, m18_462, m18_464, m18_467, m18_468, m18_469, m18_471, m18_472, m18_475, m18_476, m18_479, m18_480, m18_481, m18_483, m18_484, m18_487, m18_490, m18_491, m18_492, m18_494, m18_497, m18_499, m18_501, m18_502, m18_504, m18_505, m18_506, m18_507, m18_510, m18_511, m18_514, m18_515, nb0, nb1, ou_a, Option.toList_some, Option.toList_none, List.nil_append, List.cons_append, ou_same, ou_comm, setA_same, getA_set2, setA_len, inB_iff, A0g_0, A0g_1, A0g_2, A0g_3, A0g_4, A0g_5, A0g_6, A0g_7, A0g_8, A0g_9, A0g_10, A0l_0, A0l_1, A0l_2, A0l_3, A0l_4, A0l_5, A0l_6, A0l_7, A0l_8, A0l_9, A0l_10]
    refine ⟨?_, ?_⟩ <;> simp only [ou_a, setA_len, put_len, put_tot, pad_0, tot_nil, List.length_nil, List.length_cons, A0l_0, A0l_1, A0l_2, A0l_3, A0l_4, A0l_5, A0l_6, A0l_7, A0l_8, A0l_9, A0l_10] <;> simp [setA_len, put_len, put_tot, pad_0, tot_nil, List.length_nil, List.length_cons, A0l_0, A0l_1, A0l_2, A0l_3, A0l_4, A0l_5, A0l_6, A0l_7, A0l_8, A0l_9, A0l_10]
set_option maxRecDepth 1000000 in
set_option maxHeartbeats 20000000 in
theorem own_t0010 (i0 : Int32) (i1 : Int32) (i2 : Int32) (i3 : Int32) (i4 : Int32) (i5 : Int32) (e0 : i0 &&& 1 = 0) (e1 : i1 &&& 1 = 0) (e2 : i2 &&& 1 = 1) (e3 : i3 &&& 1 = 0) : W tables_1 dn 0 x code ret 0 (entry [.int i0, .int i1, .int i2, .int i3, .int i4, .int i5] maxLocals) [] [] (fun v H1 => v = some (.int 1) ∧ H1.length - ([] : AHeap).length ≤ 32 ∧ tot tables_1 H1 - tot tables_1 [] ≤ 4224) := by
  show M18 0 [.val (.int i0), .val (.int i1), .val (.int i2), .val (.int i3), .val (.int i4), .val (.int i5), .unset, .unset, .unset, .unset, .unset, .unset, .unset, .unset, .unset, .unset, .unset, .unset, .unset, .unset, .unset, .unset, .unset, .unset, .unset, .unset] [] [] _
  rw [m18_0, m18_1, m18_2, m18_3u, m18_5, m18_6, m18_7, m18_8u, m18_10, m18_11, m18_12, m18_13u, m18_15, m18_16, m18_17, m18_18u, m18_20, m18_22, m18_23, m18_24u, m18_26, m18_28, m18_29, m18_30u, m18_32, m18_35, m18_36, m18_37, m18_39, own_ctor0 rfl]
  rcases own_bit i4 with e4 | e4 <;> rcases own_bit i5 with e5 | e5 <;>
  · simp (maxSteps := 10000000) [e0, e1, e2, e3, e4, e5, m0_0, m0_1, m0_4, m0_5, m0_12, m0_13, m0_20, m0_21, m0_28, m0_29, m0_37, m0_38, m0_46, m0_47, m0_55, m0_56, m0_64, m0_65, m0_73, m0_74, m0_82, m0_83, m0_91, m0_92, m0_99, m0_100u, m0_101, m0_102, m0_103, m0_106, m0_107i, m0_108, m0_109, m0_111, m0_114, m0_116i, m0_117, m0_118u, m0_120, m0_122, m0_124, m0_127, m0_129i, m0_131, m0_133, m0_135, m0_138, m0_140i, m0_142, m0_143, m0_144, m0_147, m0_148, m0_150, m0_153, m0_154, m0_155, m0_158, m0_159, m0_160, m0_163, m0_164, m0_165, m0_168, m0_169, m0_172, m1_0, m1_1, m1_2, m1_5, m1_6, m1_7, m1_10, m1_11, m1_12, m1_15, m1_16, m1_17, m1_20, m1_21, m1_22, m1_25, m2_0, m2_1, m2_4, m2_5, m2_8, m2_11, m2_12, m2_13, m2_16, m2_17, m2_18, m2_19, m2_20, m2_23, m2_24, m2_25, m2_26, m2_27, m2_30, m2_31, m2_32, m2_33, m2_34, m2_37, m2_38, m2_39, m2_40, m2_41, m2_44, m2_45, m2_46, m2_47, m2_48, m2_50, m2_51u, m2_52, m2_53u, m2_54, m2_55, m2_57, m2_60, m2_61, m2_64, m2_65, m2_66, m2_67, m2_68, m2_69, m2_72, m2_75, m3_0, m3_1, m3_4, m3_5, m3_6, m3_9, m3_12, m3_13, m3_14, m3_15, m3_18, m3_19, m3_22, m3_25, m3_26, m3_27, m3_28, m3_31, m3_32, m3_35, m3_36, m3_37, m3_38, m3_39, m3_42, m3_43, m3_44, m3_47, m3_48, m3_49, m3_52, m3_53, m4_0, m4_1, m4_4, m4_5, m4_6, m4_9, m4_12, m4_13, m4_16, m4_17, m4_19, m4_22, m4_23, m4_24, m4_27u, m4_28, m4_29, m4_30, m4_33, m4_34, m4_35, m4_38, m4_39, m4_40, m4_43, m4_44, m4_47, m4_48, m4_49, m4_52, m4_53, m4_56, m4_57, m4_58, m4_59, m4_60, m4_61, m4_64, m4_65, m4_66, m4_69, m4_70, m4_71, m4_72, m4_73, m4_74, m4_75, m4_76, m4_79, m4_80, m4_81, m4_84u, m4_85, m4_86, m4_89, m4_90, m4_93, m4_94, m4_95, m4_96, m4_99, m4_100, m4_103, m4_104, m4_106, m4_107, m4_108, m4_109, m4_110u, m4_112, m4_113, m4_116, m4_117, m4_118, m4_119, m4_120, m4_121, m4_124, m4_126, m4_127, m4_130, m4_131, m4_134, m4_135, m4_137, m4_138, m4_141, m4_142, m4_143, m4_144, m4_146, m4_147, m4_150, m4_151, m4_152, m4_155, m4_156, m4_157, m4_160, m4_161, m4_164, m4_165, m4_166, m4_167, m4_170, m4_171, m4_174, m4_175, m4_176, m4_177, m4_178, m4_179, m4_182, m4_183, m4_184, m4_187, m5_0, m5_1u, m5_3, m5_4u, m5_6, m5_8, m5_11, m5_14, m5_16, m5_19, m5_20, m5_23, m5_25, m5_27, m5_28, m5_29, m5_30, m5_31, m5_34, m5_35, m5_38, m5_40, m5_42, m5_43, m5_44, m5_45, m5_46, m5_47, m5_48, m5_51, m5_53, m5_54i, m5_56, m5_59, m5_62, m5_64, m6_0, m6_1, m6_4, m6_5, m6_6, m6_9, m6_12, m6_13, m6_14, m6_15, m6_18, m6_20, m6_23, m6_24, m6_25, m6_26, m6_29, m6_30, m6_33, m6_34, m6_35, m6_36, m6_37, m6_40, m6_41, m6_42, m6_45, m6_46, m7_0, m7_1, m7_4, m8_0, m8_1, m8_4, m9_0, m9_1, m9_4, m9_7, m9_8, m9_9, m9_10, m9_13, m9_14, m9_17, m9_20, m9_21, m9_22, m9_23, m9_26, m9_27, m9_30, m9_31, m9_34, m9_35, m10_0, m10_1u, m10_2, m10_3u, m10_4, m10_5, m10_6, m10_9, m10_12, m10_13, m10_15, m10_18, m10_19, m10_22, m10_23, m10_24u, m10_24i, m10_24r, m10_25, m10_26, m10_29, m10_30, m10_32, m10_35, m10_36, m10_37, m10_38, m10_41, m10_42, m10_44, m10_45, m10_46, m10_47, m10_48u, m10_48i, m10_48r, m10_50, m10_52, m10_55, m10_56, m10_57, m10_59i, m10_60, m10_63, m10_66, m10_67, m11_0, m11_1, m11_4, m11_7, m11_8, m11_11, m11_12, m11_13, m11_14, m11_15, m11_18, m11_19, m11_22, m11_25, m11_26, m11_27, m11_28, m11_31u, m11_32, m11_33, m11_34, m11_37, m11_38, m11_39, m11_40, m11_43, m11_44, m11_47, m11_48, m11_49, m12_0, m12_1, m12_4, m12_7, m12_8, m12_9, m12_12, m12_13u, m12_14, m12_15, m12_16, m12_19, m12_22, m12_23, m12_26, m12_29, m12_30, m12_33, m12_34, m12_35, m12_38, m12_39, m12_42, m12_43, m12_44, m12_47, m12_48, m12_51, m12_52, m12_53, m12_56, m12_59, m12_60, m12_63, m12_64, m12_65i, m12_66, m12_67, m12_68, m12_71, m12_72, m12_75, m12_76, m12_77u, m12_77i, m12_77r, m12_78, m12_79, m12_82, m12_83, m12_84u, m12_84i, m12_84r, m12_85, m12_86, m12_89, m12_90, m12_93, m12_94, m12_95, m12_96, m12_97, m12_100, m12_101, m12_102, m12_103, m12_104, m12_107, m12_110, m12_111, m12_112, m12_115, m13_0, m13_1u, m13_2, m13_3, m13_5, m13_8, m13_9, m13_12, m13_13, m13_14, m13_15, m13_18, m13_21, m13_22i, m13_23, m13_24, m13_25, m13_28, m13_31, m13_32, m13_35, m13_38, m13_39, m13_42, m13_43, m13_46, m13_47, m13_48, m13_49, m13_50, m13_51, m13_52, m13_53, m13_56, m13_59, m13_60i, m13_61, m13_62, m13_64, m13_67, m13_68, m13_71, m13_72, m13_73, m13_74, m13_75, m13_78, m13_79, m13_80, m13_81, m13_82, m13_83, m13_84, m13_87, m13_90, m13_91, m13_94, m13_95, m13_96i, m13_97, m13_98, m13_101, m13_102, m13_105, m13_106, m13_107u, m13_107i, m13_107r, m13_108, m13_109, m13_112, m13_113, m13_114, m13_115, m13_116, m13_117, m13_118, m13_119, m13_122, m13_123, m13_124u, m13_124i, m13_124r, m13_125, m13_126, m13_129, m13_130, m13_133, m13_136, m13_137, m13_140, m13_141, m13_142, m13_143, m13_146, m13_149, m14_0, m14_1, m14_4, m14_7, m14_8, m14_9, m14_10, m14_13, m14_14, m14_17, m14_20, m14_21, m14_22, m14_23, m14_26u, m14_27, m14_28, m14_29, m14_32, m14_33, m14_34, m14_35, m14_38, m14_39, m14_40, m14_41, m14_44, m14_45, m14_46, m14_47, m15_0, m15_1, m15_4, m15_5, m15_6, m15_9, m15_12, m15_13, m15_14, m15_15u, m15_16, m15_17u, m15_18, m15_19, m15_20, m15_23, m15_26, m15_27, m15_30, m15_33, m15_34, m15_37, m15_38, m15_39u, m15_39i, m15_39r, m15_41, m15_43, m15_46, m15_47, m15_50, m15_52, m15_53, m15_54, m15_57, m15_58, m15_59, m15_62, m15_63, m15_64, m15_67, m15_70, m15_73, m15_76, m15_77, m16_0, m16_1, m16_4, m17_0, m17_1, m17_4u, m17_6, m17_7, m17_8, m17_11, m17_12, m17_13, m17_16, m17_17, m17_19, m17_22, m17_23, m17_26, m17_28, m17_29, m17_32, m17_33, m17_34, m17_35, m17_36, m17_37, m17_38, m17_41, m17_43, m17_44, m17_47, m17_48, m17_49, m17_50, m17_51, m17_54, m17_56, m17_57, m17_60, m17_61, m17_62, m17_63, m17_64, m17_67, m17_69, m17_70, m17_71, m17_72, m17_74, m17_75u, m17_77, m17_79, m17_81, m17_82u, m17_84, m17_85u, m17_87, m17_89, m17_91, m17_94, m17_95, m17_98, m17_100, m17_102, m17_103, m17_104, m17_107, m17_109, m17_111, m17_112, m17_113, m17_114, m17_117, m17_120, m17_121i, m17_123, m17_124u, m17_126, m17_128, m17_131, m17_134, m17_136, m17_139, m17_140, m17_143, m17_145, m17_147, m17_148, m17_149, m17_150, m17_151, m17_152, m17_155, m17_156, m17_159, m17_161, m17_163, m17_164, m17_165, m17_166, m17_168, m17_169, m17_170, m17_173, m17_175, m17_176i, m17_178, m17_181, m17_184, m17_185, m17_188, m17_189, m17_191, m17_192, m17_193, m17_196, m17_198, m17_200, m17_201, m18_0, m18_1, m18_2, m18_3u, m18_5, m18_6, m18_7, m18_8u, m18_10, m18_11, m18_12, m18_13u, m18_15, m18_16, m18_17, m18_18u, m18_20, m18_22, m18_23, m18_24u, m18_26, m18_28, m18_29, m18_30u, m18_32, m18_35, m18_36, m18_37, m18_39, m18_42u, m18_44, m18_46, m18_48, m18_51, m18_54, m18_55, m18_56, m18_58, m18_60, m18_63, m18_66, m18_67, m18_68, m18_70, m18_72, m18_75, m18_78, m18_79, m18_80, m18_82, m18_84, m18_87, m18_90, m18_91, m18_92, m18_94, m18_96, m18_99, m18_102, m18_103, m18_104, m18_106, m18_108, m18_111, m18_114, m18_115, m18_116, m18_118, m18_121, m18_122, m18_125, m18_127, m18_130, m18_131, m18_134, m18_135, m18_136, m18_138, m18_140, m18_143, m18_145, m18_147, m18_150, m18_151, m18_154, m18_155u, m18_157, m18_159, m18_161, m18_164, m18_166, m18_168, m18_171, m18_172, m18_175, m18_176u, m18_178, m18_180, m18_182, m18_185, m18_187, m18_189, m18_192, m18_193, m18_196, m18_197u, m18_199, m18_201, m18_203, m18_204, m18_206, m18_207u, m18_209, m18_211, m18_212, m18_215, m18_216, m18_219, m18_221, m18_222, m18_225, m18_226, m18_229, m18_231, m18_232, m18_235, m18_236, m18_239, m18_240u, m18_242, m18_244, m18_247, m18_249, m18_252, m18_253, m18_256, m18_257, m18_260, m18_261, m18_262, m18_264, m18_267, m18_269, m18_272, m18_273, m18_274, m18_276, m18_279, m18_281, m18_284, m18_285, m18_286, m18_288, m18_290, m18_293, m18_295, m18_297, m18_300, m18_302, m18_304, m18_307, m18_308, m18_311, m18_312u, m18_314, m18_315, m18_317, m18_318, m18_320, m18_321u, m18_323, m18_324, m18_326, m18_327, m18_329, m18_330u, m18_332, m18_333, m18_335, m18_336, m18_338, m18_339u, m18_341, m18_342, m18_344, m18_346, m18_349, m18_350, m18_353, m18_354, m18_355, m18_357, m18_359, m18_362, m18_364, m18_366, m18_369, m18_370, m18_373, m18_374, m18_375u, m18_377, m18_378, m18_380, m18_381, m18_382, m18_384, m18_385, m18_386, m18_388, m18_389u, m18_391, m18_392, m18_394, m18_395, m18_396, m18_398, m18_399, m18_400, m18_402, m18_403u, m18_405, m18_407, m18_409, m18_412, m18_413, m18_416, m18_417u, m18_419, m18_421, m18_422, m18_425, m18_428, m18_429, m18_430, m18_432, m18_433, m18_436, m18_438, m18_441, m18_442, m18_443, m18_445, m18_446, m18_449, m18_451, m18_454, m18_455, m18_456, m18_458, m18_459, m18_462, m18_464, m18_467, m18_468, m18_469, m18_471, m18_472, m18_475, m18_476, m18_479, m18_480, m18_481, m18_483, m18_484, m18_487, m18_490, m18_491, m18_492, m18_494, m18_497, m18_499, m18_501, m18_502, m18_504, m18_505, m18_506, m18_507, m18_510, m18_511, m18_514, m18_515, nb0, nb1, ou_a, Option.toList_some, Option.toList_none, List.nil_append, List.cons_append, ou_same, ou_comm, setA_same, getA_set2, setA_len, inB_iff, A0g_0, A0g_1, A0g_2, A0g_3, A0g_4, A0g_5, A0g_6, A0g_7, A0g_8, A0g_9, A0g_10, A0l_0, A0l_1, A0l_2, A0l_3, A0l_4, A0l_5, A0l_6, A0l_7, A0l_8, A0l_9, A0l_10]
    refine ⟨?_, ?_⟩ <;> simp only [ou_a, setA_len, put_len, put_tot, pad_0, tot_nil, List.length_nil, List.length_cons, A0l_0, A0l_1, A0l_2, A0l_3, A0l_4, A0l_5, A0l_6, A0l_7, A0l_8, A0l_9, A0l_10] <;> simp [setA_len, put_len, put_tot, pad_0, tot_nil, List.length_nil, List.length_cons, A0l_0, A0l_1, A0l_2, A0l_3, A0l_4, A0l_5, A0l_6, A0l_7, A0l_8, A0l_9, A0l_10]
set_option maxRecDepth 1000000 in
set_option maxHeartbeats 20000000 in
theorem own_t1010 (i0 : Int32) (i1 : Int32) (i2 : Int32) (i3 : Int32) (i4 : Int32) (i5 : Int32) (e0 : i0 &&& 1 = 1) (e1 : i1 &&& 1 = 0) (e2 : i2 &&& 1 = 1) (e3 : i3 &&& 1 = 0) : W tables_1 dn 0 x code ret 0 (entry [.int i0, .int i1, .int i2, .int i3, .int i4, .int i5] maxLocals) [] [] (fun v H1 => v = some (.int 1) ∧ H1.length - ([] : AHeap).length ≤ 32 ∧ tot tables_1 H1 - tot tables_1 [] ≤ 4224) := by
  show M18 0 [.val (.int i0), .val (.int i1), .val (.int i2), .val (.int i3), .val (.int i4), .val (.int i5), .unset, .unset, .unset, .unset, .unset, .unset, .unset, .unset, .unset, .unset, .unset, .unset, .unset, .unset, .unset, .unset, .unset, .unset, .unset, .unset] [] [] _
  rw [m18_0, m18_1, m18_2, m18_3u, m18_5, m18_6, m18_7, m18_8u, m18_10, m18_11, m18_12, m18_13u, m18_15, m18_16, m18_17, m18_18u, m18_20, m18_22, m18_23, m18_24u, m18_26, m18_28, m18_29, m18_30u, m18_32, m18_35, m18_36, m18_37, m18_39, own_ctor0 rfl]
  rcases own_bit i4 with e4 | e4 <;> rcases own_bit i5 with e5 | e5 <;>
  · simp (maxSteps := 10000000) [e0, e1, e2, e3, e4, e5, m0_0, m0_1, m0_4, m0_5, m0_12, m0_13, m0_20, m0_21, m0_28, m0_29, m0_37, m0_38, m0_46, m0_47, m0_55, m0_56, m0_64, m0_65, m0_73, m0_74, m0_82, m0_83, m0_91, m0_92, m0_99, m0_100u, m0_101, m0_102, m0_103, m0_106, m0_107i, m0_108, m0_109, m0_111, m0_114, m0_116i, m0_117, m0_118u, m0_120, m0_122, m0_124, m0_127, m0_129i, m0_131, m0_133, m0_135, m0_138, m0_140i, m0_142, m0_143, m0_144, m0_147, m0_148, m0_150, m0_153, m0_154, m0_155, m0_158, m0_159, m0_160, m0_163, m0_164, m0_165, m0_168, m0_169, m0_172, m1_0, m1_1, m1_2, m1_5, m1_6, m1_7, m1_10, m1_11, m1_12, m1_15, m1_16, m1_17, m1_20, m1_21, m1_22, m1_25, m2_0, m2_1, m2_4, m2_5, m2_8, m2_11, m2_12, m2_13, m2_16, m2_17, m2_18, m2_19, m2_20, m2_23, m2_24, m2_25, m2_26, m2_27, m2_30, m2_31, m2_32, m2_33, m2_34, m2_37, m2_38, m2_39, m2_40, m2_41, m2_44, m2_45, m2_46, m2_47, m2_48, m2_50, m2_51u, m2_52, m2_53u, m2_54, m2_55, m2_57, m2_60, m2_61, m2_64, m2_65, m2_66, m2_67, m2_68, m2_69, m2_72, m2_75, m3_0, m3_1, m3_4, m3_5, m3_6, m3_9, m3_12, m3_13, m3_14, m3_15, m3_18, m3_19, m3_22, m3_25, m3_26, m3_27, m3_28, m3_31, m3_32, m3_35, m3_36, m3_37, m3_38, m3_39, m3_42, m3_43, m3_44, m3_47, m3_48, m3_49, m3_52, m3_53, m4_0, m4_1, m4_4, m4_5, m4_6, m4_9, m4_12, m4_13, m4_16, m4_17, m4_19, m4_22, m4_23, m4_24, m4_27u, m4_28, m4_29, m4_30, m4_33, m4_34, m4_35, m4_38, m4_39, m4_40, m4_43, m4_44, m4_47, m4_48, m4_49, m4_52, m4_53, m4_56, m4_57, m4_58, m4_59, m4_60, m4_61, m4_64, m4_65, m4_66, m4_69, m4_70, m4_71, m4_72, m4_73, m4_74, m4_75, m4_76, m4_79, m4_80, m4_81, m4_84u, m4_85, m4_86, m4_89, m4_90, m4_93, m4_94, m4_95, m4_96, m4_99, m4_100, m4_103, m4_104, m4_106, m4_107, m4_108, m4_109, m4_110u, m4_112, m4_113, m4_116, m4_117, m4_118, m4_119, m4_120, m4_121, m4_124, m4_126, m4_127, m4_130, m4_131, m4_134, m4_135, m4_137, m4_138, m4_141, m4_142, m4_143, m4_144, m4_146, m4_147, m4_150, m4_151, m4_152, m4_155, m4_156, m4_157, m4_160, m4_161, m4_164, m4_165, m4_166, m4_167, m4_170, m4_171, m4_174, m4_175, m4_176, m4_177, m4_178, m4_179, m4_182, m4_183, m4_184, m4_187, m5_0, m5_1u, m5_3, m5_4u, m5_6, m5_8, m5_11, m5_14, m5_16, m5_19, m5_20, m5_23, m5_25, m5_27, m5_28, m5_29, m5_30, m5_31, m5_34, m5_35, m5_38, m5_40, m5_42, m5_43, m5_44, m5_45, m5_46, m5_47, m5_48, m5_51, m5_53, m5_54i, m5_56, m5_59, m5_62, m5_64, m6_0, m6_1, m6_4, m6_5, m6_6, m6_9, m6_12, m6_13, m6_14, m6_15, m6_18, m6_20, m6_23, m6_24, m6_25, m6_26, m6_29, m6_30, m6_33, m6_34, m6_35, m6_36, m6_37, m6_40, m6_41, m6_42, m6_45, m6_46, m7_0, m7_1, m7_4, m8_0, m8_1, m8_4, m9_0, m9_1, m9_4, m9_7, m9_8, m9_9, m9_10, m9_13, m9_14, m9_17, m9_20, m9_21, m9_22, m9_23, m9_26, m9_27, m9_30, m9_31, m9_34, m9_35, m10_0, m10_1u, m10_2, m10_3u, m10_4, m10_5, m10_6, m10_9, m10_12, m10_13, m10_15, m10_18, m10_19, m10_22, m10_23, m10_24u, m10_24i, m10_24r, m10_25, m10_26, m10_29, m10_30, m10_32, m10_35, m10_36, m10_37, m10_38, m10_41, m10_42, m10_44, m10_45, m10_46, m10_47, m10_48u, m10_48i, m10_48r, m10_50, m10_52, m10_55, m10_56, m10_57, m10_59i, m10_60, m10_63, m10_66, m10_67, m11_0, m11_1, m11_4, m11_7, m11_8, m11_11, m11_12, m11_13, m11_14, m11_15, m11_18, m11_19, m11_22, m11_25, m11_26, m11_27, m11_28, m11_31u, m11_32, m11_33, m11_34, m11_37, m11_38, m11_39, m11_40, m11_43, m11_44, m11_47, m11_48, m11_49, m12_0, m12_1, m12_4, m12_7, m12_8, m12_9, m12_12, m12_13u, m12_14, m12_15, m12_16, m12_19, m12_22, m12_23, m12_26, m12_29, m12_30, m12_33, m12_34, m12_35, m12_38, m12_39, m12_42, m12_43, m12_44, m12_47, m12_48, m12_51, m12_52, m12_53, m12_56, m12_59, m12_60, m12_63, m12_64, m12_65i, m12_66, m12_67, m12_68, m12_71, m12_72, m12_75, m12_76, m12_77u, m12_77i, m12_77r, m12_78, m12_79, m12_82, m12_83, m12_84u, m12_84i, m12_84r, m12_85, m12_86, m12_89, m12_90, m12_93, m12_94, m12_95, m12_96, m12_97, m12_100, m12_101, m12_102, m12_103, m12_104, m12_107, m12_110, m12_111, m12_112, m12_115, m13_0, m13_1u, m13_2, m13_3, m13_5, m13_8, m13_9, m13_12, m13_13, m13_14, m13_15, m13_18, m13_21, m13_22i, m13_23, m13_24, m13_25, m13_28, m13_31, m13_32, m13_35, m13_38, m13_39, m13_42, m13_43, m13_46, m13_47, m13_48, m13_49, m13_50, m13_51, m13_52, m13_53, m13_56, m13_59, m13_60i, m13_61, m13_62, m13_64, m13_67, m13_68, m13_71, m13_72, m13_73, m13_74, m13_75, m13_78, m13_79, m13_80, m13_81, m13_82, m13_83, m13_84, m13_87, m13_90, m13_91, m13_94, m13_95, m13_96i, m13_97, m13_98, m13_101, m13_102, m13_105, m13_106, m13_107u, m13_107i, m13_107r, m13_108, m13_109, m13_112, m13_113, m13_114, m13_115, m13_116, m13_117, m13_118, m13_119, m13_122, m13_123, m13_124u, m13_124i, m13_124r, m13_125, m13_126, m13_129, m13_130, m13_133, m13_136, m13_137, m13_140, m13_141, m13_142, m13_143, m13_146, m13_149, m14_0, m14_1, m14_4, m14_7, m14_8, m14_9, m14_10, m14_13, m14_14, m14_17, m14_20, m14_21, m14_22, m14_23, m14_26u, m14_27, m14_28, m14_29, m14_32, m14_33, m14_34, m14_35, m14_38, m14_39, m14_40, m14_41, m14_44, m14_45, m14_46, m14_47, m15_0, m15_1, m15_4, m15_5, m15_6, m15_9, m15_12, m15_13, m15_14, m15_15u, m15_16, m15_17u, m15_18, m15_19, m15_20, m15_23, m15_26, m15_27, m15_30, m15_33, m15_34, m15_37, m15_38, m15_39u, m15_39i, m15_39r, m15_41, m15_43, m15_46, m15_47, m15_50, m15_52, m15_53, m15_54, m15_57, m15_58, m15_59, m15_62, m15_63, m15_64, m15_67, m15_70, m15_73, m15_76, m15_77, m16_0, m16_1, m16_4, m17_0, m17_1, m17_4u, m17_6, m17_7, m17_8, m17_11, m17_12, m17_13, m17_16, m17_17, m17_19, m17_22, m17_23, m17_26, m17_28, m17_29, m17_32, m17_33, m17_34, m17_35, m17_36, m17_37, m17_38, m17_41, m17_43, m17_44, m17_47, m17_48, m17_49, m17_50, m17_51, m17_54, m17_56, m17_57, m17_60, m17_61, m17_62, m17_63, m17_64, m17_67, m17_69, m17_70, m17_71, m17_72, m17_74, m17_75u, m17_77, m17_79, m17_81, m17_82u, m17_84, m17_85u, m17_87, m17_89, m17_91, m17_94, m17_95, m17_98, m17_100, m17_102, m17_103, m17_104, m17_107, m17_109, m17_111, m17_112, m17_113, m17_114, m17_117, m17_120, m17_121i, m17_123, m17_124u, m17_126, m17_128, m17_131, m17_134, m17_136, m17_139, m17_140, m17_143, m17_145, m17_147, m17_148, m17_149, m17_150, m17_151, m17_152, m17_155, m17_156, m17_159, m17_161, m17_163, m17_164, m17_165, m17_166, m17_168, m17_169, m17_170, m17_173, m17_175, m17_176i, m17_178, m17_181, m17_184, m17_185, m17_188, m17_189, m17_191, m17_192, m17_193, m17_196, m17_198, m17_200, m17_201, m18_0, m18_1, m18_2, m18_3u, m18_5, m18_6, m18_7, m18_8u, m18_10, m18_11, m18_12, m18_13u, m18_15, m18_16, m18_17, m18_18u, m18_20, m18_22, m18_23, m18_24u, m18_26, m18_28, m18_29, m18_30u, m18_32, m18_35, m18_36, m18_37, m18_39, m18_42u, m18_44, m18_46, m18_48, m18_51, m18_54, m18_55, m18_56, m18_58, m18_60, m18_63, m18_66, m18_67, m18_68, m18_70, m18_72, m18_75, m18_78, m18_79, m18_80, m18_82, m18_84, m18_87, m18_90, m18_91, m18_92, m18_94, m18_96, m18_99, m18_102, m18_103, m18_104, m18_106, m18_108, m18_111, m18_114, m18_115, m18_116, m18_118, m18_121, m18_122, m18_125, m18_127, m18_130, m18_131, m18_134, m18_135, m18_136, m18_138, m18_140, m18_143, m18_145, m18_147, m18_150, m18_151, m18_154, m18_155u, m18_157, m18_159, m18_161, m18_164, m18_166, m18_168, m18_171, m18_172, m18_175, m18_176u, m18_178, m18_180, m18_182, m18_185, m18_187, m18_189, m18_192, m18_193, m18_196, m18_197u, m18_199, m18_201, m18_203, m18_204, m18_206, m18_207u, m18_209, m18_211, m18_212, m18_215, m18_216, m18_219, m18_221, m18_222, m18_225, m18_226, m18_229, m18_231, m18_232, m18_235, m18_236, m18_239, m18_240u, m18_242, m18_244, m18_247, m18_249, m18_252, m18_253, m18_256, m18_257, m18_260, m18_261, m18_262, m18_264, m18_267, m18_269, m18_272, m18_273, m18_274, m18_276, m18_279, m18_281, m18_284, m18_285, m18_286, m18_288, m18_290, m18_293, m18_295, m18_297, m18_300, m18_302, m18_304, m18_307, m18_308, m18_311, m18_312u, m18_314, m18_315, m18_317, m18_318, m18_320, m18_321u, m18_323, m18_324, m18_326, m18_327, m18_329, m18_330u, m18_332, m18_333, m18_335, m18_336, m18_338, m18_339u, m18_341, m18_342, m18_344, m18_346, m18_349, m18_350, m18_353, m18_354, m18_355, m18_357, m18_359, m18_362, m18_364, m18_366, m18_369, m18_370, m18_373, m18_374, m18_375u, m18_377, m18_378, m18_380, m18_381, m18_382, m18_384, m18_385, m18_386, m18_388, m18_389u, m18_391, m18_392, m18_394, m18_395, m18_396, m18_398, m18_399, m18_400, m18_402, m18_403u, m18_405, m18_407, m18_409, m18_412, m18_413, m18_416, m18_417u, m18_419, m18_421, m18_422, m18_425, m18_428, m18_429, m18_430, m18_432, m18_433, m18_436, m18_438, m18_441, m18_442, m18_443, m18_445, m18_446, m18_449, m18_451, m18_454, m18_455, m18_456, m18_458, m18_459, m18_462, m18_464, m18_467, m18_468, m18_469, m18_471, m18_472, m18_475, m18_476, m18_479, m18_480, m18_481, m18_483, m18_484, m18_487, m18_490, m18_491, m18_492, m18_494, m18_497, m18_499, m18_501, m18_502, m18_504, m18_505, m18_506, m18_507, m18_510, m18_511, m18_514, m18_515, nb0, nb1, ou_a, Option.toList_some, Option.toList_none, List.nil_append, List.cons_append, ou_same, ou_comm, setA_same, getA_set2, setA_len, inB_iff, A0g_0, A0g_1, A0g_2, A0g_3, A0g_4, A0g_5, A0g_6, A0g_7, A0g_8, A0g_9, A0g_10, A0l_0, A0l_1, A0l_2, A0l_3, A0l_4, A0l_5, A0l_6, A0l_7, A0l_8, A0l_9, A0l_10]
    refine ⟨?_, ?_⟩ <;> simp only [ou_a, setA_len, put_len, put_tot, pad_0, tot_nil, List.length_nil, List.length_cons, A0l_0, A0l_1, A0l_2, A0l_3, A0l_4, A0l_5, A0l_6, A0l_7, A0l_8, A0l_9, A0l_10] <;> simp [setA_len, put_len, put_tot, pad_0, tot_nil, List.length_nil, List.length_cons, A0l_0, A0l_1, A0l_2, A0l_3, A0l_4, A0l_5, A0l_6, A0l_7, A0l_8, A0l_9, A0l_10]
set_option maxRecDepth 1000000 in
set_option maxHeartbeats 20000000 in
theorem own_t0110 (i0 : Int32) (i1 : Int32) (i2 : Int32) (i3 : Int32) (i4 : Int32) (i5 : Int32) (e0 : i0 &&& 1 = 0) (e1 : i1 &&& 1 = 1) (e2 : i2 &&& 1 = 1) (e3 : i3 &&& 1 = 0) : W tables_1 dn 0 x code ret 0 (entry [.int i0, .int i1, .int i2, .int i3, .int i4, .int i5] maxLocals) [] [] (fun v H1 => v = some (.int 1) ∧ H1.length - ([] : AHeap).length ≤ 32 ∧ tot tables_1 H1 - tot tables_1 [] ≤ 4224) := by
  show M18 0 [.val (.int i0), .val (.int i1), .val (.int i2), .val (.int i3), .val (.int i4), .val (.int i5), .unset, .unset, .unset, .unset, .unset, .unset, .unset, .unset, .unset, .unset, .unset, .unset, .unset, .unset, .unset, .unset, .unset, .unset, .unset, .unset] [] [] _
  rw [m18_0, m18_1, m18_2, m18_3u, m18_5, m18_6, m18_7, m18_8u, m18_10, m18_11, m18_12, m18_13u, m18_15, m18_16, m18_17, m18_18u, m18_20, m18_22, m18_23, m18_24u, m18_26, m18_28, m18_29, m18_30u, m18_32, m18_35, m18_36, m18_37, m18_39, own_ctor0 rfl]
  rcases own_bit i4 with e4 | e4 <;> rcases own_bit i5 with e5 | e5 <;>
  · simp (maxSteps := 10000000) [e0, e1, e2, e3, e4, e5, m0_0, m0_1, m0_4, m0_5, m0_12, m0_13, m0_20, m0_21, m0_28, m0_29, m0_37, m0_38, m0_46, m0_47, m0_55, m0_56, m0_64, m0_65, m0_73, m0_74, m0_82, m0_83, m0_91, m0_92, m0_99, m0_100u, m0_101, m0_102, m0_103, m0_106, m0_107i, m0_108, m0_109, m0_111, m0_114, m0_116i, m0_117, m0_118u, m0_120, m0_122, m0_124, m0_127, m0_129i, m0_131, m0_133, m0_135, m0_138, m0_140i, m0_142, m0_143, m0_144, m0_147, m0_148, m0_150, m0_153, m0_154, m0_155, m0_158, m0_159, m0_160, m0_163, m0_164, m0_165, m0_168, m0_169, m0_172, m1_0, m1_1, m1_2, m1_5, m1_6, m1_7, m1_10, m1_11, m1_12, m1_15, m1_16, m1_17, m1_20, m1_21, m1_22, m1_25, m2_0, m2_1, m2_4, m2_5, m2_8, m2_11, m2_12, m2_13, m2_16, m2_17, m2_18, m2_19, m2_20, m2_23, m2_24, m2_25, m2_26, m2_27, m2_30, m2_31, m2_32, m2_33, m2_34, m2_37, m2_38, m2_39, m2_40, m2_41, m2_44, m2_45, m2_46, m2_47, m2_48, m2_50, m2_51u, m2_52, m2_53u, m2_54, m2_55, m2_57, m2_60, m2_61, m2_64, m2_65, m2_66, m2_67, m2_68, m2_69, m2_72, m2_75, m3_0, m3_1, m3_4, m3_5, m3_6, m3_9, m3_12, m3_13, m3_14, m3_15, m3_18, m3_19, m3_22, m3_25, m3_26, m3_27, m3_28, m3_31, m3_32, m3_35, m3_36, m3_37, m3_38, m3_39, m3_42, m3_43, m3_44, m3_47, m3_48, m3_49, m3_52, m3_53, m4_0, m4_1, m4_4, m4_5, m4_6, m4_9, m4_12, m4_13, m4_16, m4_17, m4_19, m4_22, m4_23, m4_24, m4_27u, m4_28, m4_29, m4_30, m4_33, m4_34, m4_35, m4_38, m4_39, m4_40, m4_43, m4_44, m4_47, m4_48, m4_49, m4_52, m4_53, m4_56, m4_57, m4_58, m4_59, m4_60, m4_61, m4_64, m4_65, m4_66, m4_69, m4_70, m4_71, m4_72, m4_73, m4_74, m4_75, m4_76, m4_79, m4_80, m4_81, m4_84u, m4_85, m4_86, m4_89, m4_90, m4_93, m4_94, m4_95, m4_96, m4_99, m4_100, m4_103, m4_104, m4_106, m4_107, m4_108, m4_109, m4_110u, m4_112, m4_113, m4_116, m4_117, m4_118, m4_119, m4_120, m4_121, m4_124, m4_126, m4_127, m4_130, m4_131, m4_134, m4_135, m4_137, m4_138, m4_141, m4_142, m4_143, m4_144, m4_146, m4_147, m4_150, m4_151, m4_152, m4_155, m4_156, m4_157, m4_160, m4_161, m4_164, m4_165, m4_166, m4_167, m4_170, m4_171, m4_174, m4_175, m4_176, m4_177, m4_178, m4_179, m4_182, m4_183, m4_184, m4_187, m5_0, m5_1u, m5_3, m5_4u, m5_6, m5_8, m5_11, m5_14, m5_16, m5_19, m5_20, m5_23, m5_25, m5_27, m5_28, m5_29, m5_30, m5_31, m5_34, m5_35, m5_38, m5_40, m5_42, m5_43, m5_44, m5_45, m5_46, m5_47, m5_48, m5_51, m5_53, m5_54i, m5_56, m5_59, m5_62, m5_64, m6_0, m6_1, m6_4, m6_5, m6_6, m6_9, m6_12, m6_13, m6_14, m6_15, m6_18, m6_20, m6_23, m6_24, m6_25, m6_26, m6_29, m6_30, m6_33, m6_34, m6_35, m6_36, m6_37, m6_40, m6_41, m6_42, m6_45, m6_46, m7_0, m7_1, m7_4, m8_0, m8_1, m8_4, m9_0, m9_1, m9_4, m9_7, m9_8, m9_9, m9_10, m9_13, m9_14, m9_17, m9_20, m9_21, m9_22, m9_23, m9_26, m9_27, m9_30, m9_31, m9_34, m9_35, m10_0, m10_1u, m10_2, m10_3u, m10_4, m10_5, m10_6, m10_9, m10_12, m10_13, m10_15, m10_18, m10_19, m10_22, m10_23, m10_24u, m10_24i, m10_24r, m10_25, m10_26, m10_29, m10_30, m10_32, m10_35, m10_36, m10_37, m10_38, m10_41, m10_42, m10_44, m10_45, m10_46, m10_47, m10_48u, m10_48i, m10_48r, m10_50, m10_52, m10_55, m10_56, m10_57, m10_59i, m10_60, m10_63, m10_66, m10_67, m11_0, m11_1, m11_4, m11_7, m11_8, m11_11, m11_12, m11_13, m11_14, m11_15, m11_18, m11_19, m11_22, m11_25, m11_26, m11_27, m11_28, m11_31u, m11_32, m11_33, m11_34, m11_37, m11_38, m11_39, m11_40, m11_43, m11_44, m11_47, m11_48, m11_49, m12_0, m12_1, m12_4, m12_7, m12_8, m12_9, m12_12, m12_13u, m12_14, m12_15, m12_16, m12_19, m12_22, m12_23, m12_26, m12_29, m12_30, m12_33, m12_34, m12_35, m12_38, m12_39, m12_42, m12_43, m12_44, m12_47, m12_48, m12_51, m12_52, m12_53, m12_56, m12_59, m12_60, m12_63, m12_64, m12_65i, m12_66, m12_67, m12_68, m12_71, m12_72, m12_75, m12_76, m12_77u, m12_77i, m12_77r, m12_78, m12_79, m12_82, m12_83, m12_84u, m12_84i, m12_84r, m12_85, m12_86, m12_89, m12_90, m12_93, m12_94, m12_95, m12_96, m12_97, m12_100, m12_101, m12_102, m12_103, m12_104, m12_107, m12_110, m12_111, m12_112, m12_115, m13_0, m13_1u, m13_2, m13_3, m13_5, m13_8, m13_9, m13_12, m13_13, m13_14, m13_15, m13_18, m13_21, m13_22i, m13_23, m13_24, m13_25, m13_28, m13_31, m13_32, m13_35, m13_38, m13_39, m13_42, m13_43, m13_46, m13_47, m13_48, m13_49, m13_50, m13_51, m13_52, m13_53, m13_56, m13_59, m13_60i, m13_61, m13_62, m13_64, m13_67, m13_68, m13_71, m13_72, m13_73, m13_74, m13_75, m13_78, m13_79, m13_80, m13_81, m13_82, m13_83, m13_84, m13_87, m13_90, m13_91, m13_94, m13_95, m13_96i, m13_97, m13_98, m13_101, m13_102, m13_105, m13_106, m13_107u, m13_107i, m13_107r, m13_108, m13_109, m13_112, m13_113, m13_114, m13_115, m13_116, m13_117, m13_118, m13_119, m13_122, m13_123, m13_124u, m13_124i, m13_124r, m13_125, m13_126, m13_129, m13_130, m13_133, m13_136, m13_137, m13_140, m13_141, m13_142, m13_143, m13_146, m13_149, m14_0, m14_1, m14_4, m14_7, m14_8, m14_9, m14_10, m14_13, m14_14, m14_17, m14_20, m14_21, m14_22, m14_23, m14_26u, m14_27, m14_28, m14_29, m14_32, m14_33, m14_34, m14_35, m14_38, m14_39, m14_40, m14_41, m14_44, m14_45, m14_46, m14_47, m15_0, m15_1, m15_4, m15_5, m15_6, m15_9, m15_12, m15_13, m15_14, m15_15u, m15_16, m15_17u, m15_18, m15_19, m15_20, m15_23, m15_26, m15_27, m15_30, m15_33, m15_34, m15_37, m15_38, m15_39u, m15_39i, m15_39r, m15_41, m15_43, m15_46, m15_47, m15_50, m15_52, m15_53, m15_54, m15_57, m15_58, m15_59, m15_62, m15_63, m15_64, m15_67, m15_70, m15_73, m15_76, m15_77, m16_0, m16_1, m16_4, m17_0, m17_1, m17_4u, m17_6, m17_7, m17_8, m17_11, m17_12, m17_13, m17_16, m17_17, m17_19, m17_22, m17_23, m17_26, m17_28, m17_29, m17_32, m17_33, m17_34, m17_35, m17_36, m17_37, m17_38, m17_41, m17_43, m17_44, m17_47, m17_48, m17_49, m17_50, m17_51, m17_54, m17_56, m17_57, m17_60, m17_61, m17_62, m17_63, m17_64, m17_67, m17_69, m17_70, m17_71, m17_72, m17_74, m17_75u, m17_77, m17_79, m17_81, m17_82u, m17_84, m17_85u, m17_87, m17_89, m17_91, m17_94, m17_95, m17_98, m17_100, m17_102, m17_103, m17_104, m17_107, m17_109, m17_111, m17_112, m17_113, m17_114, m17_117, m17_120, m17_121i, m17_123, m17_124u, m17_126, m17_128, m17_131, m17_134, m17_136, m17_139, m17_140, m17_143, m17_145, m17_147, m17_148, m17_149, m17_150, m17_151, m17_152, m17_155, m17_156, m17_159, m17_161, m17_163, m17_164, m17_165, m17_166, m17_168, m17_169, m17_170, m17_173, m17_175, m17_176i, m17_178, m17_181, m17_184, m17_185, m17_188, m17_189, m17_191, m17_192, m17_193, m17_196, m17_198, m17_200, m17_201, m18_0, m18_1, m18_2, m18_3u, m18_5, m18_6, m18_7, m18_8u, m18_10, m18_11, m18_12, m18_13u, m18_15, m18_16, m18_17, m18_18u, m18_20, m18_22, m18_23, m18_24u, m18_26, m18_28, m18_29, m18_30u, m18_32, m18_35, m18_36, m18_37, m18_39, m18_42u, m18_44, m18_46, m18_48, m18_51, m18_54, m18_55, m18_56, m18_58, m18_60, m18_63, m18_66, m18_67, m18_68, m18_70, m18_72, m18_75, m18_78, m18_79, m18_80, m18_82, m18_84, m18_87, m18_90, m18_91, m18_92, m18_94, m18_96, m18_99, m18_102, m18_103, m18_104, m18_106, m18_108, m18_111, m18_114, m18_115, m18_116, m18_118, m18_121, m18_122, m18_125, m18_127, m18_130, m18_131, m18_134, m18_135, m18_136, m18_138, m18_140, m18_143, m18_145, m18_147, m18_150, m18_151, m18_154, m18_155u, m18_157, m18_159, m18_161, m18_164, m18_166, m18_168, m18_171, m18_172, m18_175, m18_176u, m18_178, m18_180, m18_182, m18_185, m18_187, m18_189, m18_192, m18_193, m18_196, m18_197u, m18_199, m18_201, m18_203, m18_204, m18_206, m18_207u, m18_209, m18_211, m18_212, m18_215, m18_216, m18_219, m18_221, m18_222, m18_225, m18_226, m18_229, m18_231, m18_232, m18_235, m18_236, m18_239, m18_240u, m18_242, m18_244, m18_247, m18_249, m18_252, m18_253, m18_256, m18_257, m18_260, m18_261, m18_262, m18_264, m18_267, m18_269, m18_272, m18_273, m18_274, m18_276, m18_279, m18_281, m18_284, m18_285, m18_286, m18_288, m18_290, m18_293, m18_295, m18_297, m18_300, m18_302, m18_304, m18_307, m18_308, m18_311, m18_312u, m18_314, m18_315, m18_317, m18_318, m18_320, m18_321u, m18_323, m18_324, m18_326, m18_327, m18_329, m18_330u, m18_332, m18_333, m18_335, m18_336, m18_338, m18_339u, m18_341, m18_342, m18_344, m18_346, m18_349, m18_350, m18_353, m18_354, m18_355, m18_357, m18_359, m18_362, m18_364, m18_366, m18_369, m18_370, m18_373, m18_374, m18_375u, m18_377, m18_378, m18_380, m18_381, m18_382, m18_384, m18_385, m18_386, m18_388, m18_389u, m18_391, m18_392, m18_394, m18_395, m18_396, m18_398, m18_399, m18_400, m18_402, m18_403u, m18_405, m18_407, m18_409, m18_412, m18_413, m18_416, m18_417u, m18_419, m18_421, m18_422, m18_425, m18_428, m18_429, m18_430, m18_432, m18_433, m18_436, m18_438, m18_441, m18_442, m18_443, m18_445, m18_446, m18_449, m18_451, m18_454, m18_455, m18_456, m18_458, m18_459, m18_462, m18_464, m18_467, m18_468, m18_469, m18_471, m18_472, m18_475, m18_476, m18_479, m18_480, m18_481, m18_483, m18_484, m18_487, m18_490, m18_491, m18_492, m18_494, m18_497, m18_499, m18_501, m18_502, m18_504, m18_505, m18_506, m18_507, m18_510, m18_511, m18_514, m18_515, nb0, nb1, ou_a, Option.toList_some, Option.toList_none, List.nil_append, List.cons_append, ou_same, ou_comm, setA_same, getA_set2, setA_len, inB_iff, A0g_0, A0g_1, A0g_2, A0g_3, A0g_4, A0g_5, A0g_6, A0g_7, A0g_8, A0g_9, A0g_10, A0l_0, A0l_1, A0l_2, A0l_3, A0l_4, A0l_5, A0l_6, A0l_7, A0l_8, A0l_9, A0l_10]
    refine ⟨?_, ?_⟩ <;> simp only [ou_a, setA_len, put_len, put_tot, pad_0, tot_nil, List.length_nil, List.length_cons, A0l_0, A0l_1, A0l_2, A0l_3, A0l_4, A0l_5, A0l_6, A0l_7, A0l_8, A0l_9, A0l_10] <;> simp [setA_len, put_len, put_tot, pad_0, tot_nil, List.length_nil, List.length_cons, A0l_0, A0l_1, A0l_2, A0l_3, A0l_4, A0l_5, A0l_6, A0l_7, A0l_8, A0l_9, A0l_10]
set_option maxRecDepth 1000000 in
set_option maxHeartbeats 20000000 in
theorem own_t1110 (i0 : Int32) (i1 : Int32) (i2 : Int32) (i3 : Int32) (i4 : Int32) (i5 : Int32) (e0 : i0 &&& 1 = 1) (e1 : i1 &&& 1 = 1) (e2 : i2 &&& 1 = 1) (e3 : i3 &&& 1 = 0) : W tables_1 dn 0 x code ret 0 (entry [.int i0, .int i1, .int i2, .int i3, .int i4, .int i5] maxLocals) [] [] (fun v H1 => v = some (.int 1) ∧ H1.length - ([] : AHeap).length ≤ 32 ∧ tot tables_1 H1 - tot tables_1 [] ≤ 4224) := by
  show M18 0 [.val (.int i0), .val (.int i1), .val (.int i2), .val (.int i3), .val (.int i4), .val (.int i5), .unset, .unset, .unset, .unset, .unset, .unset, .unset, .unset, .unset, .unset, .unset, .unset, .unset, .unset, .unset, .unset, .unset, .unset, .unset, .unset] [] [] _
  rw [m18_0, m18_1, m18_2, m18_3u, m18_5, m18_6, m18_7, m18_8u, m18_10, m18_11, m18_12, m18_13u, m18_15, m18_16, m18_17, m18_18u, m18_20, m18_22, m18_23, m18_24u, m18_26, m18_28, m18_29, m18_30u, m18_32, m18_35, m18_36, m18_37, m18_39, own_ctor0 rfl]
  rcases own_bit i4 with e4 | e4 <;> rcases own_bit i5 with e5 | e5 <;>
  · simp (maxSteps := 10000000) [e0, e1, e2, e3, e4, e5, m0_0, m0_1, m0_4, m0_5, m0_12, m0_13, m0_20, m0_21, m0_28, m0_29, m0_37, m0_38, m0_46, m0_47, m0_55, m0_56, m0_64, m0_65, m0_73, m0_74, m0_82, m0_83, m0_91, m0_92, m0_99, m0_100u, m0_101, m0_102, m0_103, m0_106, m0_107i, m0_108, m0_109, m0_111, m0_114, m0_116i, m0_117, m0_118u, m0_120, m0_122, m0_124, m0_127, m0_129i, m0_131, m0_133, m0_135, m0_138, m0_140i, m0_142, m0_143, m0_144, m0_147, m0_148, m0_150, m0_153, m0_154, m0_155, m0_158, m0_159, m0_160, m0_163, m0_164, m0_165, m0_168, m0_169, m0_172, m1_0, m1_1, m1_2, m1_5, m1_6, m1_7, m1_10, m1_11, m1_12, m1_15, m1_16, m1_17, m1_20, m1_21, m1_22, m1_25, m2_0, m2_1, m2_4, m2_5, m2_8, m2_11, m2_12, m2_13, m2_16, m2_17, m2_18, m2_19, m2_20, m2_23, m2_24, m2_25, m2_26, m2_27, m2_30, m2_31, m2_32, m2_33, m2_34, m2_37, m2_38, m2_39, m2_40, m2_41, m2_44, m2_45, m2_46, m2_47, m2_48, m2_50, m2_51u, m2_52, m2_53u, m2_54, m2_55, m2_57, m2_60, m2_61, m2_64, m2_65, m2_66, m2_67, m2_68, m2_69, m2_72, m2_75, m3_0, m3_1, m3_4, m3_5, m3_6, m3_9, m3_12, m3_13, m3_14, m3_15, m3_18, m3_19, m3_22, m3_25, m3_26, m3_27, m3_28, m3_31, m3_32, m3_35, m3_36, m3_37, m3_38, m3_39, m3_42, m3_43, m3_44, m3_47, m3_48, m3_49, m3_52, m3_53, m4_0, m4_1, m4_4, m4_5, m4_6, m4_9, m4_12, m4_13, m4_16, m4_17, m4_19, m4_22, m4_23, m4_24, m4_27u, m4_28, m4_29, m4_30, m4_33, m4_34, m4_35, m4_38, m4_39, m4_40, m4_43, m4_44, m4_47, m4_48, m4_49, m4_52, m4_53, m4_56, m4_57, m4_58, m4_59, m4_60, m4_61, m4_64, m4_65, m4_66, m4_69, m4_70, m4_71, m4_72, m4_73, m4_74, m4_75, m4_76, m4_79, m4_80, m4_81, m4_84u, m4_85, m4_86, m4_89, m4_90, m4_93, m4_94, m4_95, m4_96, m4_99, m4_100, m4_103, m4_104, m4_106, m4_107, m4_108, m4_109, m4_110u, m4_112, m4_113, m4_116, m4_117, m4_118, m4_119, m4_120, m4_121, m4_124, m4_126, m4_127, m4_130, m4_131, m4_134, m4_135, m4_137, m4_138, m4_141, m4_142, m4_143, m4_144, m4_146, m4_147, m4_150, m4_151, m4_152, m4_155, m4_156, m4_157, m4_160, m4_161, m4_164, m4_165, m4_166, m4_167, m4_170, m4_171, m4_174, m4_175, m4_176, m4_177, m4_178, m4_179, m4_182, m4_183, m4_184, m4_187, m5_0, m5_1u, m5_3, m5_4u, m5_6, m5_8, m5_11, m5_14, m5_16, m5_19, m5_20, m5_23, m5_25, m5_27, m5_28, m5_29, m5_30, m5_31, m5_34, m5_35, m5_38, m5_40, m5_42, m5_43, m5_44, m5_45, m5_46, m5_47, m5_48, m5_51, m5_53, m5_54i, m5_56, m5_59, m5_62, m5_64, m6_0, m6_1, m6_4, m6_5, m6_6, m6_9, m6_12, m6_13, m6_14, m6_15, m6_18, m6_20, m6_23, m6_24, m6_25, m6_26, m6_29, m6_30, m6_33, m6_34, m6_35, m6_36, m6_37, m6_40, m6_41, m6_42, m6_45, m6_46, m7_0, m7_1, m7_4, m8_0, m8_1, m8_4, m9_0, m9_1, m9_4, m9_7, m9_8, m9_9, m9_10, m9_13, m9_14, m9_17, m9_20, m9_21, m9_22, m9_23, m9_26, m9_27, m9_30, m9_31, m9_34, m9_35, m10_0, m10_1u, m10_2, m10_3u, m10_4, m10_5, m10_6, m10_9, m10_12, m10_13, m10_15, m10_18, m10_19, m10_22, m10_23, m10_24u, m10_24i, m10_24r, m10_25, m10_26, m10_29, m10_30, m10_32, m10_35, m10_36, m10_37, m10_38, m10_41, m10_42, m10_44, m10_45, m10_46, m10_47, m10_48u, m10_48i, m10_48r, m10_50, m10_52, m10_55, m10_56, m10_57, m10_59i, m10_60, m10_63, m10_66, m10_67, m11_0, m11_1, m11_4, m11_7, m11_8, m11_11, m11_12, m11_13, m11_14, m11_15, m11_18, m11_19, m11_22, m11_25, m11_26, m11_27, m11_28, m11_31u, m11_32, m11_33, m11_34, m11_37, m11_38, m11_39, m11_40, m11_43, m11_44, m11_47, m11_48, m11_49, m12_0, m12_1, m12_4, m12_7, m12_8, m12_9, m12_12, m12_13u, m12_14, m12_15, m12_16, m12_19, m12_22, m12_23, m12_26, m12_29, m12_30, m12_33, m12_34, m12_35, m12_38, m12_39, m12_42, m12_43, m12_44, m12_47, m12_48, m12_51, m12_52, m12_53, m12_56, m12_59, m12_60, m12_63, m12_64, m12_65i, m12_66, m12_67, m12_68, m12_71, m12_72, m12_75, m12_76, m12_77u, m12_77i, m12_77r, m12_78, m12_79, m12_82, m12_83, m12_84u, m12_84i, m12_84r, m12_85, m12_86, m12_89, m12_90, m12_93, m12_94, m12_95, m12_96, m12_97, m12_100, m12_101, m12_102, m12_103, m12_104, m12_107, m12_110, m12_111, m12_112, m12_115, m13_0, m13_1u, m13_2, m13_3, m13_5, m13_8, m13_9, m13_12, m13_13, m13_14, m13_15, m13_18, m13_21, m13_22i, m13_23, m13_24, m13_25, m13_28, m13_31, m13_32, m13_35, m13_38, m13_39, m13_42, m13_43, m13_46, m13_47, m13_48, m13_49, m13_50, m13_51, m13_52, m13_53, m13_56, m13_59, m13_60i, m13_61, m13_62, m13_64, m13_67, m13_68, m13_71, m13_72, m13_73, m13_74, m13_75, m13_78, m13_79, m13_80, m13_81, m13_82, m13_83, m13_84, m13_87, m13_90, m13_91, m13_94, m13_95, m13_96i, m13_97, m13_98, m13_101, m13_102, m13_105, m13_106, m13_107u, m13_107i, m13_107r, m13_108, m13_109, m13_112, m13_113, m13_114, m13_115, m13_116, m13_117, m13_118, m13_119, m13_122, m13_123, m13_124u, m13_124i, m13_124r, m13_125, m13_126, m13_129, m13_130, m13_133, m13_136, m13_137, m13_140, m13_141, m13_142, m13_143, m13_146, m13_149, m14_0, m14_1, m14_4, m14_7, m14_8, m14_9, m14_10, m14_13, m14_14, m14_17, m14_20, m14_21, m14_22, m14_23, m14_26u, m14_27, m14_28, m14_29, m14_32, m14_33, m14_34, m14_35, m14_38, m14_39, m14_40, m14_41, m14_44, m14_45, m14_46, m14_47, m15_0, m15_1, m15_4, m15_5, m15_6, m15_9, m15_12, m15_13, m15_14, m15_15u, m15_16, m15_17u, m15_18, m15_19, m15_20, m15_23, m15_26, m15_27, m15_30, m15_33, m15_34, m15_37, m15_38, m15_39u, m15_39i, m15_39r, m15_41, m15_43, m15_46, m15_47, m15_50, m15_52, m15_53, m15_54, m15_57, m15_58, m15_59, m15_62, m15_63, m15_64, m15_67, m15_70, m15_73, m15_76, m15_77, m16_0, m16_1, m16_4, m17_0, m17_1, m17_4u, m17_6, m17_7, m17_8, m17_11, m17_12, m17_13, m17_16, m17_17, m17_19, m17_22, m17_23, m17_26, m17_28, m17_29, m17_32, m17_33, m17_34, m17_35, m17_36, m17_37, m17_38, m17_41, m17_43, m17_44, m17_47, m17_48, m17_49, m17_50, m17_51, m17_54, m17_56, m17_57, m17_60, m17_61, m17_62, m17_63, m17_64, m17_67, m17_69, m17_70, m17_71, m17_72, m17_74, m17_75u, m17_77, m17_79, m17_81, m17_82u, m17_84, m17_85u, m17_87, m17_89, m17_91, m17_94, m17_95, m17_98, m17_100, m17_102, m17_103, m17_104, m17_107, m17_109, m17_111, m17_112, m17_113, m17_114, m17_117, m17_120, m17_121i, m17_123, m17_124u, m17_126, m17_128, m17_131, m17_134, m17_136, m17_139, m17_140, m17_143, m17_145, m17_147, m17_148, m17_149, m17_150, m17_151, m17_152, m17_155, m17_156, m17_159, m17_161, m17_163, m17_164, m17_165, m17_166, m17_168, m17_169, m17_170, m17_173, m17_175, m17_176i, m17_178, m17_181, m17_184, m17_185, m17_188, m17_189, m17_191, m17_192, m17_193, m17_196, m17_198, m17_200, m17_201, m18_0, m18_1, m18_2, m18_3u, m18_5, m18_6, m18_7, m18_8u, m18_10, m18_11, m18_12, m18_13u, m18_15, m18_16, m18_17, m18_18u, m18_20, m18_22, m18_23, m18_24u, m18_26, m18_28, m18_29, m18_30u, m18_32, m18_35, m18_36, m18_37, m18_39, m18_42u, m18_44, m18_46, m18_48, m18_51, m18_54, m18_55, m18_56, m18_58, m18_60, m18_63, m18_66, m18_67, m18_68, m18_70, m18_72, m18_75, m18_78, m18_79, m18_80, m18_82, m18_84, m18_87, m18_90, m18_91, m18_92, m18_94, m18_96, m18_99, m18_102, m18_103, m18_104, m18_106, m18_108, m18_111, m18_114, m18_115, m18_116, m18_118, m18_121, m18_122, m18_125, m18_127, m18_130, m18_131, m18_134, m18_135, m18_136, m18_138, m18_140, m18_143, m18_145, m18_147, m18_150, m18_151, m18_154, m18_155u, m18_157, m18_159, m18_161, m18_164, m18_166, m18_168, m18_171, m18_172, m18_175, m18_176u, m18_178, m18_180, m18_182, m18_185, m18_187, m18_189, m18_192, m18_193, m18_196, m18_197u, m18_199, m18_201, m18_203, m18_204, m18_206, m18_207u, m18_209, m18_211, m18_212, m18_215, m18_216, m18_219, m18_221, m18_222, m18_225, m18_226, m18_229, m18_231, m18_232, m18_235, m18_236, m18_239, m18_240u, m18_242, m18_244, m18_247, m18_249, m18_252, m18_253, m18_256, m18_257, m18_260, m18_261, m18_262, m18_264, m18_267, m18_269, m18_272, m18_273, m18_274, m18_276, m18_279, m18_281, m18_284, m18_285, m18_286, m18_288, m18_290, m18_293, m18_295, m18_297, m18_300, m18_302, m18_304, m18_307, m18_308, m18_311, m18_312u, m18_314, m18_315, m18_317, m18_318, m18_320, m18_321u, m18_323, m18_324, m18_326, m18_327, m18_329, m18_330u, m18_332, m18_333, m18_335, m18_336, m18_338, m18_339u, m18_341, m18_342, m18_344, m18_346, m18_349, m18_350, m18_353, m18_354, m18_355, m18_357, m18_359, m18_362, m18_364, m18_366, m18_369, m18_370, m18_373, m18_374, m18_375u, m18_377, m18_378, m18_380, m18_381, m18_382, m18_384, m18_385, m18_386, m18_388, m18_389u, m18_391, m18_392, m18_394, m18_395, m18_396, m18_398, m18_399, m18_400, m18_402, m18_403u, m18_405, m18_407, m18_409, m18_412, m18_413, m18_416, m18_417u, m18_419, m18_421, m18_422, m18_425, m18_428, m18_429, m18_430, m18_432, m18_433, m18_436, m18_438, m18_441, m18_442, m18_443, m18_445, m18_446, m18_449, m18_451, m18_454, m18_455, m18_456, m18_458, m18_459, m18_462, m18_464, m18_467, m18_468, m18_469, m18_471, m18_472, m18_475, m18_476, m18_479, m18_480, m18_481, m18_483, m18_484, m18_487, m18_490, m18_491, m18_492, m18_494, m18_497, m18_499, m18_501, m18_502, m18_504, m18_505, m18_506, m18_507, m18_510, m18_511, m18_514, m18_515, nb0, nb1, ou_a, Option.toList_some, Option.toList_none, List.nil_append, List.cons_append, ou_same, ou_comm, setA_same, getA_set2, setA_len, inB_iff, A0g_0, A0g_1, A0g_2, A0g_3, A0g_4, A0g_5, A0g_6, A0g_7, A0g_8, A0g_9, A0g_10, A0l_0, A0l_1, A0l_2, A0l_3, A0l_4, A0l_5, A0l_6, A0l_7, A0l_8, A0l_9, A0l_10]
    refine ⟨?_, ?_⟩ <;> simp only [ou_a, setA_len, put_len, put_tot, pad_0, tot_nil, List.length_nil, List.length_cons, A0l_0, A0l_1, A0l_2, A0l_3, A0l_4, A0l_5, A0l_6, A0l_7, A0l_8, A0l_9, A0l_10] <;> simp [setA_len, put_len, put_tot, pad_0, tot_nil, List.length_nil, List.length_cons, A0l_0, A0l_1, A0l_2, A0l_3, A0l_4, A0l_5, A0l_6, A0l_7, A0l_8, A0l_9, A0l_10]
set_option maxRecDepth 1000000 in
set_option maxHeartbeats 20000000 in
theorem own_t0001 (i0 : Int32) (i1 : Int32) (i2 : Int32) (i3 : Int32) (i4 : Int32) (i5 : Int32) (e0 : i0 &&& 1 = 0) (e1 : i1 &&& 1 = 0) (e2 : i2 &&& 1 = 0) (e3 : i3 &&& 1 = 1) : W tables_1 dn 0 x code ret 0 (entry [.int i0, .int i1, .int i2, .int i3, .int i4, .int i5] maxLocals) [] [] (fun v H1 => v = some (.int 1) ∧ H1.length - ([] : AHeap).length ≤ 32 ∧ tot tables_1 H1 - tot tables_1 [] ≤ 4224) := by
  show M18 0 [.val (.int i0), .val (.int i1), .val (.int i2), .val (.int i3), .val (.int i4), .val (.int i5), .unset, .unset, .unset, .unset, .unset, .unset, .unset, .unset, .unset, .unset, .unset, .unset, .unset, .unset, .unset, .unset, .unset, .unset, .unset, .unset] [] [] _
  rw [m18_0, m18_1, m18_2, m18_3u, m18_5, m18_6, m18_7, m18_8u, m18_10, m18_11, m18_12, m18_13u, m18_15, m18_16, m18_17, m18_18u, m18_20, m18_22, m18_23, m18_24u, m18_26, m18_28, m18_29, m18_30u, m18_32, m18_35, m18_36, m18_37, m18_39, own_ctor0 rfl]
  rcases own_bit i4 with e4 | e4 <;> rcases own_bit i5 with e5 | e5 <;>
  · simp (maxSteps := 10000000) [e0, e1, e2, e3, e4, e5, m0_0, m0_1, m0_4, m0_5, m0_12, m0_13, m0_20, m0_21, m0_28, m0_29, m0_37, m0_38, m0_46, m0_47, m0_55, m0_56, m0_64, m0_65, m0_73, m0_74, m0_82, m0_83, m0_91, m0_92, m0_99, m0_100u, m0_101, m0_102, m0_103, m0_106, m0_107i, m0_108, m0_109, m0_111, m0_114, m0_116i, m0_117, m0_118u, m0_120, m0_122, m0_124, m0_127, m0_129i, m0_131, m0_133, m0_135, m0_138, m0_140i, m0_142, m0_143, m0_144, m0_147, m0_148, m0_150, m0_153, m0_154, m0_155, m0_158, m0_159, m0_160, m0_163, m0_164, m0_165, m0_168, m0_169, m0_172, m1_0, m1_1, m1_2, m1_5, m1_6, m1_7, m1_10, m1_11, m1_12, m1_15, m1_16, m1_17, m1_20, m1_21, m1_22, m1_25, m2_0, m2_1, m2_4, m2_5, m2_8, m2_11, m2_12, m2_13, m2_16, m2_17, m2_18, m2_19, m2_20, m2_23, m2_24, m2_25, m2_26, m2_27, m2_30, m2_31, m2_32, m2_33, m2_34, m2_37, m2_38, m2_39, m2_40, m2_41, m2_44, m2_45, m2_46, m2_47, m2_48, m2_50, m2_51u, m2_52, m2_53u, m2_54, m2_55, m2_57, m2_60, m2_61, m2_64, m2_65, m2_66, m2_67, m2_68, m2_69, m2_72, m2_75, m3_0, m3_1, m3_4, m3_5, m3_6, m3_9, m3_12, m3_13, m3_14, m3_15, m3_18, m3_19, m3_22, m3_25, m3_26, m3_27, m3_28, m3_31, m3_32, m3_35, m3_36, m3_37, m3_38, m3_39, m3_42, m3_43, m3_44, m3_47, m3_48, m3_49, m3_52, m3_53, m4_0, m4_1, m4_4, m4_5, m4_6, m4_9, m4_12, m4_13, m4_16, m4_17, m4_19, m4_22, m4_23, m4_24, m4_27u, m4_28, m4_29, m4_30, m4_33, m4_34, m4_35, m4_38, m4_39, m4_40, m4_43, m4_44, m4_47, m4_48, m4_49, m4_52, m4_53, m4_56, m4_57, m4_58, m4_59, m4_60, m4_61, m4_64, m4_65, m4_66, m4_69, m4_70, m4_71, m4_72, m4_73, m4_74, m4_75, m4_76, m4_79, m4_80, m4_81, m4_84u, m4_85, m4_86, m4_89, m4_90, m4_93, m4_94, m4_95, m4_96, m4_99, m4_100, m4_103, m4_104, m4_106, m4_107, m4_108, m4_109, m4_110u, m4_112, m4_113, m4_116, m4_117, m4_118, m4_119, m4_120, m4_121, m4_124, m4_126, m4_127, m4_130, m4_131, m4_134, m4_135, m4_137, m4_138, m4_141, m4_142, m4_143, m4_144, m4_146, m4_147, m4_150, m4_151, m4_152, m4_155, m4_156, m4_157, m4_160, m4_161, m4_164, m4_165, m4_166, m4_167, m4_170, m4_171, m4_174, m4_175, m4_176, m4_177, m4_178, m4_179, m4_182, m4_183, m4_184, m4_187, m5_0, m5_1u, m5_3, m5_4u, m5_6, m5_8, m5_11, m5_14, m5_16, m5_19, m5_20, m5_23, m5_25, m5_27, m5_28, m5_29, m5_30, m5_31, m5_34, m5_35, m5_38, m5_40, m5_42, m5_43, m5_44, m5_45, m5_46, m5_47, m5_48, m5_51, m5_53, m5_54i, m5_56, m5_59, m5_62, m5_64, m6_0, m6_1, m6_4, m6_5, m6_6, m6_9, m6_12, m6_13, m6_14, m6_15, m6_18, m6_20, m6_23, m6_24, m6_25, m6_26, m6_29, m6_30, m6_33, m6_34, m6_35, m6_36, m6_37, m6_40, m6_41, m6_42, m6_45, m6_46, m7_0, m7_1, m7_4, m8_0, m8_1, m8_4, m9_0, m9_1, m9_4, m9_7, m9_8, m9_9, m9_10, m9_13, m9_14, m9_17, m9_20, m9_21, m9_22, m9_23, m9_26, m9_27, m9_30, m9_31, m9_34, m9_35, m10_0, m10_1u, m10_2, m10_3u, m10_4, m10_5, m10_6, m10_9, m10_12, m10_13, m10_15, m10_18, m10_19, m10_22, m10_23, m10_24u, m10_24i, m10_24r, m10_25, m10_26, m10_29, m10_30, m10_32, m10_35, m10_36, m10_37, m10_38, m10_41, m10_42, m10_44, m10_45, m10_46, m10_47, m10_48u, m10_48i, m10_48r, m10_50, m10_52, m10_55, m10_56, m10_57, m10_59i, m10_60, m10_63, m10_66, m10_67, m11_0, m11_1, m11_4, m11_7, m11_8, m11_11, m11_12, m11_13, m11_14, m11_15, m11_18, m11_19, m11_22, m11_25, m11_26, m11_27, m11_28, m11_31u, m11_32, m11_33, m11_34, m11_37, m11_38, m11_39, m11_40, m11_43, m11_44, m11_47, m11_48, m11_49, m12_0, m12_1, m12_4, m12_7, m12_8, m12_9, m12_12, m12_13u, m12_14, m12_15, m12_16, m12_19, m12_22, m12_23, m12_26, m12_29, m12_30, m12_33, m12_34, m12_35, m12_38, m12_39, m12_42, m12_43, m12_44, m12_47, m12_48, m12_51, m12_52, m12_53, m12_56, m12_59, m12_60, m12_63, m12_64, m12_65i, m12_66, m12_67, m12_68, m12_71, m12_72, m12_75, m12_76, m12_77u, m12_77i, m12_77r, m12_78, m12_79, m12_82, m12_83, m12_84u, m12_84i, m12_84r, m12_85, m12_86, m12_89, m12_90, m12_93, m12_94, m12_95, m12_96, m12_97, m12_100, m12_101, m12_102, m12_103, m12_104, m12_107, m12_110, m12_111, m12_112, m12_115, m13_0, m13_1u, m13_2, m13_3, m13_5, m13_8, m13_9, m13_12, m13_13, m13_14, m13_15, m13_18, m13_21, m13_22i, m13_23, m13_24, m13_25, m13_28, m13_31, m13_32, m13_35, m13_38, m13_39, m13_42, m13_43, m13_46, m13_47, m13_48, m13_49, m13_50, m13_51, m13_52, m13_53, m13_56, m13_59, m13_60i, m13_61, m13_62, m13_64, m13_67, m13_68, m13_71, m13_72, m13_73, m13_74, m13_75, m13_78, m13_79, m13_80, m13_81, m13_82, m13_83, m13_84, m13_87, m13_90, m13_91, m13_94, m13_95, m13_96i, m13_97, m13_98, m13_101, m13_102, m13_105, m13_106, m13_107u, m13_107i, m13_107r, m13_108, m13_109, m13_112, m13_113, m13_114, m13_115, m13_116, m13_117, m13_118, m13_119, m13_122, m13_123, m13_124u, m13_124i, m13_124r, m13_125, m13_126, m13_129, m13_130, m13_133, m13_136, m13_137, m13_140, m13_141, m13_142, m13_143, m13_146, m13_149, m14_0, m14_1, m14_4, m14_7, m14_8, m14_9, m14_10, m14_13, m14_14, m14_17, m14_20, m14_21, m14_22, m14_23, m14_26u, m14_27, m14_28, m14_29, m14_32, m14_33, m14_34, m14_35, m14_38, m14_39, m14_40, m14_41, m14_44, m14_45, m14_46, m14_47, m15_0, m15_1, m15_4, m15_5, m15_6, m15_9, m15_12, m15_13, m15_14, m15_15u, m15_16, m15_17u, m15_18, m15_19, m15_20, m15_23, m15_26, m15_27, m15_30, m15_33, m15_34, m15_37, m15_38, m15_39u, m15_39i, m15_39r, m15_41, m15_43, m15_46, m15_47, m15_50, m15_52, m15_53, m15_54, m15_57, m15_58, m15_59, m15_62, m15_63, m15_64, m15_67, m15_70, m15_73, m15_76, m15_77, m16_0, m16_1, m16_4, m17_0, m17_1, m17_4u, m17_6, m17_7, m17_8, m17_11, m17_12, m17_13, m17_16, m17_17, m17_19, m17_22, m17_23, m17_26, m17_28, m17_29, m17_32, m17_33, m17_34, m17_35, m17_36, m17_37, m17_38, m17_41, m17_43, m17_44, m17_47, m17_48, m17_49, m17_50, m17_51, m17_54, m17_56, m17_57, m17_60, m17_61, m17_62, m17_63, m17_64, m17_67, m17_69, m17_70, m17_71, m17_72, m17_74, m17_75u, m17_77, m17_79, m17_81, m17_82u, m17_84, m17_85u, m17_87, m17_89, m17_91, m17_94, m17_95, m17_98, m17_100, m17_102, m17_103, m17_104, m17_107, m17_109, m17_111, m17_112, m17_113, m17_114, m17_117, m17_120, m17_121i, m17_123, m17_124u, m17_126, m17_128, m17_131, m17_134, m17_136, m17_139, m17_140, m17_143, m17_145, m17_147, m17_148, m17_149, m17_150, m17_151, m17_152, m17_155, m17_156, m17_159, m17_161, m17_163, m17_164, m17_165, m17_166, m17_168, m17_169, m17_170, m17_173, m17_175, m17_176i, m17_178, m17_181, m17_184, m17_185, m17_188, m17_189, m17_191, m17_192, m17_193, m17_196, m17_198, m17_200, m17_201, m18_0, m18_1, m18_2, m18_3u, m18_5, m18_6, m18_7, m18_8u, m18_10, m18_11, m18_12, m18_13u, m18_15, m18_16, m18_17, m18_18u, m18_20, m18_22, m18_23, m18_24u, m18_26, m18_28, m18_29, m18_30u, m18_32, m18_35, m18_36, m18_37, m18_39, m18_42u, m18_44, m18_46, m18_48, m18_51, m18_54, m18_55, m18_56, m18_58, m18_60, m18_63, m18_66, m18_67, m18_68, m18_70, m18_72, m18_75, m18_78, m18_79, m18_80, m18_82, m18_84, m18_87, m18_90, m18_91, m18_92, m18_94, m18_96, m18_99, m18_102, m18_103, m18_104, m18_106, m18_108, m18_111, m18_114, m18_115, m18_116, m18_118, m18_121, m18_122, m18_125, m18_127, m18_130, m18_131, m18_134, m18_135, m18_136, m18_138, m18_140, m18_143, m18_145, m18_147, m18_150, m18_151, m18_154, m18_155u, m18_157, m18_159, m18_161, m18_164, m18_166, m18_168, m18_171, m18_172, m18_175, m18_176u, m18_178, m18_180, m18_182, m18_185, m18_187, m18_189, m18_192, m18_193, m18_196, m18_197u, m18_199, m18_201, m18_203, m18_204, m18_206, m18_207u, m18_209, m18_211, m18_212, m18_215, m18_216, m18_219, m18_221, m18_222, m18_225, m18_226, m18_229, m18_231, m18_232, m18_235, m18_236, m18_239, m18_240u, m18_242, m18_244, m18_247, m18_249, m18_252, m18_253, m18_256, m18_257, m18_260, m18_261, m18_262, m18_264, m18_267, m18_269, m18_272, m18_273, m18_274, m18_276, m18_279, m18_281, m18_284, m18_285, m18_286, m18_288, m18_290, m18_293, m18_295, m18_297, m18_300, m18_302, m18_304, m18_307, m18_308, m18_311, m18_312u, m18_314, m18_315, m18_317, m18_318, m18_320, m18_321u, m18_323, m18_324, m18_326, m18_327, m18_329, m18_330u, m18_332, m18_333, m18_335, m18_336, m18_338, m18_339u, m18_341, m18_342, m18_344, m18_346, m18_349, m18_350, m18_353, m18_354, m18_355, m18_357, m18_359, m18_362, m18_364, m18_366, m18_369, m18_370, m18_373, m18_374, m18_375u, m18_377, m18_378, m18_380, m18_381, m18_382, m18_384, m18_385, m18_386, m18_388, m18_389u, m18_391, m18_392, m18_394, m18_395, m18_396, m18_398, m18_399, m18_400, m18_402, m18_403u, m18_405, m18_407, m18_409, m18_412, m18_413, m18_416, m18_417u, m18_419, m18_421, m18_422, m18_425, m18_428, m18_429, m18_430, m18_432, m18_433, m18_436, m18_438, m18_441, m18_442, m18_443, m18_445, m18_446, m18_449, m18_451, m18_454, m18_455, m18_456, m18_458, m18_459, m18_462, m18_464, m18_467, m18_468, m18_469, m18_471, m18_472, m18_475, m18_476, m18_479, m18_480, m18_481, m18_483, m18_484, m18_487, m18_490, m18_491, m18_492, m18_494, m18_497, m18_499, m18_501, m18_502, m18_504, m18_505, m18_506, m18_507, m18_510, m18_511, m18_514, m18_515, nb0, nb1, ou_a, Option.toList_some, Option.toList_none, List.nil_append, List.cons_append, ou_same, ou_comm, setA_same, getA_set2, setA_len, inB_iff, A0g_0, A0g_1, A0g_2, A0g_3, A0g_4, A0g_5, A0g_6, A0g_7, A0g_8, A0g_9, A0g_10, A0l_0, A0l_1, A0l_2, A0l_3, A0l_4, A0l_5, A0l_6, A0l_7, A0l_8, A0l_9, A0l_10]
    refine ⟨?_, ?_⟩ <;> simp only [ou_a, setA_len, put_len, put_tot, pad_0, tot_nil, List.length_nil, List.length_cons, A0l_0, A0l_1, A0l_2, A0l_3, A0l_4, A0l_5, A0l_6, A0l_7, A0l_8, A0l_9, A0l_10] <;> simp [setA_len, put_len, put_tot, pad_0, tot_nil, List.length_nil, List.length_cons, A0l_0, A0l_1, A0l_2, A0l_3, A0l_4, A0l_5, A0l_6, A0l_7, A0l_8, A0l_9, A0l_10]
set_option maxRecDepth 1000000 in
set_option maxHeartbeats 20000000 in
theorem own_t1001 (i0 : Int32) (i1 : Int32) (i2 : Int32) (i3 : Int32) (i4 : Int32) (i5 : Int32) (e0 : i0 &&& 1 = 1) (e1 : i1 &&& 1 = 0) (e2 : i2 &&& 1 = 0) (e3 : i3 &&& 1 = 1) : W tables_1 dn 0 x code ret 0 (entry [.int i0, .int i1, .int i2, .int i3, .int i4, .int i5] maxLocals) [] [] (fun v H1 => v = some (.int 1) ∧ H1.length - ([] : AHeap).length ≤ 32 ∧ tot tables_1 H1 - tot tables_1 [] ≤ 4224) := by
  show M18 0 [.val (.int i0), .val (.int i1), .val (.int i2), .val (.int i3), .val (.int i4), .val (.int i5), .unset, .unset, .unset, .unset, .unset, .unset, .unset, .unset, .unset, .unset, .unset, .unset, .unset, .unset, .unset, .unset, .unset, .unset, .unset, .unset] [] [] _
  rw [m18_0, m18_1, m18_2, m18_3u, m18_5, m18_6, m18_7, m18_8u, m18_10, m18_11, m18_12, m18_13u, m18_15, m18_16, m18_17, m18_18u, m18_20, m18_22, m18_23, m18_24u, m18_26, m18_28, m18_29, m18_30u, m18_32, m18_35, m18_36, m18_37, m18_39, own_ctor0 rfl]
  rcases own_bit i4 with e4 | e4 <;> rcases own_bit i5 with e5 | e5 <;>
  · simp (maxSteps := 10000000) [e0, e1, e2, e3, e4, e5, m0_0, m0_1, m0_4, m0_5, m0_12, m0_13, m0_20, m0_21, m0_28, m0_29, m0_37, m0_38, m0_46, m0_47, m0_55, m0_56, m0_64, m0_65, m0_73, m0_74, m0_82, m0_83, m0_91, m0_92, m0_99, m0_100u, m0_101, m0_102, m0_103, m0_106, m0_107i, m0_108, m0_109, m0_111, m0_114, m0_116i, m0_117, m0_118u, m0_120, m0_122, m0_124, m0_127, m0_129i, m0_131, m0_133, m0_135, m0_138, m0_140i, m0_142, m0_143, m0_144, m0_147, m0_148, m0_150, m0_153, m0_154, m0_155, m0_158, m0_159, m0_160, m0_163, m0_164, m0_165, m0_168, m0_169, m0_172, m1_0, m1_1, m1_2, m1_5, m1_6, m1_7, m1_10, m1_11, m1_12, m1_15, m1_16, m1_17, m1_20, m1_21, m1_22, m1_25, m2_0, m2_1, m2_4, m2_5, m2_8, m2_11, m2_12, m2_13, m2_16, m2_17, m2_18, m2_19, m2_20, m2_23, m2_24, m2_25, m2_26, m2_27, m2_30, m2_31, m2_32, m2_33, m2_34, m2_37, m2_38, m2_39, m2_40, m2_41, m2_44, m2_45, m2_46, m2_47, m2_48, m2_50, m2_51u, m2_52, m2_53u, m2_54, m2_55, m2_57, m2_60, m2_61, m2_64, m2_65, m2_66, m2_67, m2_68, m2_69, m2_72, m2_75, m3_0, m3_1, m3_4, m3_5, m3_6, m3_9, m3_12, m3_13, m3_14, m3_15, m3_18, m3_19, m3_22, m3_25, m3_26, m3_27, m3_28, m3_31, m3_32, m3_35, m3_36, m3_37, m3_38, m3_39, m3_42, m3_43, m3_44, m3_47, m3_48, m3_49, m3_52, m3_53, m4_0, m4_1, m4_4, m4_5, m4_6, m4_9, m4_12, m4_13, m4_16, m4_17, m4_19, m4_22, m4_23, m4_24, m4_27u, m4_28, m4_29, m4_30, m4_33, m4_34, m4_35, m4_38, m4_39, m4_40, m4_43, m4_44, m4_47, m4_48, m4_49, m4_52, m4_53, m4_56, m4_57, m4_58, m4_59, m4_60, m4_61, m4_64, m4_65, m4_66, m4_69, m4_70, m4_71, m4_72, m4_73, m4_74, m4_75, m4_76, m4_79, m4_80, m4_81, m4_84u, m4_85, m4_86, m4_89, m4_90, m4_93, m4_94, m4_95, m4_96, m4_99, m4_100, m4_103, m4_104, m4_106, m4_107, m4_108, m4_109, m4_110u, m4_112, m4_113, m4_116, m4_117, m4_118, m4_119, m4_120, m4_121, m4_124, m4_126, m4_127, m4_130, m4_131, m4_134, m4_135, m4_137, m4_138, m4_141, m4_142, m4_143, m4_144, m4_146, m4_147, m4_150, m4_151, m4_152, m4_155, m4_156, m4_157, m4_160, m4_161, m4_164, m4_165, m4_166, m4_167, m4_170, m4_171, m4_174, m4_175, m4_176, m4_177, m4_178, m4_179, m4_182, m4_183, m4_184, m4_187, m5_0, m5_1u, m5_3, m5_4u, m5_6, m5_8, m5_11, m5_14, m5_16, m5_19, m5_20, m5_23, m5_25, m5_27, m5_28, m5_29, m5_30, m5_31, m5_34, m5_35, m5_38, m5_40, m5_42, m5_43, m5_44, m5_45, m5_46, m5_47, m5_48, m5_51, m5_53, m5_54i, m5_56, m5_59, m5_62, m5_64, m6_0, m6_1, m6_4, m6_5, m6_6, m6_9, m6_12, m6_13, m6_14, m6_15, m6_18, m6_20, m6_23, m6_24, m6_25, m6_26, m6_29, m6_30, m6_33, m6_34, m6_35, m6_36, m6_37, m6_40, m6_41, m6_42, m6_45, m6_46, m7_0, m7_1, m7_4, m8_0, m8_1, m8_4, m9_0, m9_1, m9_4, m9_7, m9_8, m9_9, m9_10, m9_13, m9_14, m9_17, m9_20, m9_21, m9_22, m9_23, m9_26, m9_27, m9_30, m9_31, m9_34, m9_35, m10_0, m10_1u, m10_2, m10_3u, m10_4, m10_5, m10_6, m10_9, m10_12, m10_13, m10_15, m10_18, m10_19, m10_22, m10_23, m10_24u, m10_24i, m10_24r, m10_25, m10_26, m10_29, m10_30, m10_32, m10_35, m10_36, m10_37, m10_38, m10_41, m10_42, m10_44, m10_45, m10_46, m10_47, m10_48u, m10_48i, m10_48r, m10_50, m10_52, m10_55, m10_56, m10_57, m10_59i, m10_60, m10_63, m10_66, m10_67, m11_0, m11_1, m11_4, m11_7, m11_8, m11_11, m11_12, m11_13, m11_14, m11_15, m11_18, m11_19, m11_22, m11_25, m11_26, m11_27, m11_28, m11_31u, m11_32, m11_33, m11_34, m11_37, m11_38, m11_39, m11_40, m11_43, m11_44, m11_47, m11_48, m11_49, m12_0, m12_1, m12_4, m12_7, m12_8, m12_9, m12_12, m12_13u, m12_14, m12_15, m12_16, m12_19, m12_22, m12_23, m12_26, m12_29, m12_30, m12_33, m12_34, m12_35, m12_38, m12_39, m12_42, m12_43, m12_44, m12_47, m12_48, m12_51, m12_52, m12_53, m12_56, m12_59, m12_60, m12_63, m12_64, m12_65i, m12_66, m12_67, m12_68, m12_71, m12_72, m12_75, m12_76, m12_77u, m12_77i, m12_77r, m12_78, m12_79, m12_82, m12_83, m12_84u, m12_84i, m12_84r, m12_85, m12_86, m12_89, m12_90, m12_93, m12_94, m12_95, m12_96, m12_97, m12_100, m12_101, m12_102, m12_103, m12_104, m12_107, m12_110, m12_111, m12_112, m12_115, m13_0, m13_1u, m13_2, m13_3, m13_5, m13_8, m13_9, m13_12, m13_13, m13_14, m13_15, m13_18, m13_21, m13_22i, m13_23, m13_24, m13_25, m13_28, m13_31, m13_32, m13_35, m13_38, m13_39, m13_42, m13_43, m13_46, m13_47, m13_48, m13_49, m13_50, m13_51, m13_52, m13_53, m13_56, m13_59, m13_60i, m13_61, m13_62, m13_64, m13_67, m13_68, m13_71, m13_72, m13_73, m13_74, m13_75, m13_78, m13_79, m13_80, m13_81, m13_82, m13_83, m13_84, m13_87, m13_90, m13_91, m13_94, m13_95, m13_96i, m13_97, m13_98, m13_101, m13_102, m13_105, m13_106, m13_107u, m13_107i, m13_107r, m13_108, m13_109, m13_112, m13_113, m13_114, m13_115, m13_116, m13_117, m13_118, m13_119, m13_122, m13_123, m13_124u, m13_124i, m13_124r, m13_125, m13_126, m13_129, m13_130, m13_133, m13_136, m13_137, m13_140, m13_141, m13_142, m13_143, m13_146, m13_149, m14_0, m14_1, m14_4, m14_7, m14_8, m14_9, m14_10, m14_13, m14_14, m14_17, m14_20, m14_21, m14_22, m14_23, m14_26u, m14_27, m14_28, m14_29, m14_32, m14_33, m14_34, m14_35, m14_38, m14_39, m14_40, m14_41, m14_44, m14_45, m14_46, m14_47, m15_0, m15_1, m15_4, m15_5, m15_6, m15_9, m15_12, m15_13, m15_14, m15_15u, m15_16, m15_17u, m15_18, m15_19, m15_20, m15_23, m15_26, m15_27, m15_30, m15_33, m15_34, m15_37, m15_38, m15_39u, m15_39i, m15_39r, m15_41, m15_43, m15_46, m15_47, m15_50, m15_52, m15_53, m15_54, m15_57, m15_58, m15_59, m15_62, m15_63, m15_64, m15_67, m15_70, m15_73, m15_76, m15_77, m16_0, m16_1, m16_4, m17_0, m17_1, m17_4u, m17_6, m17_7, m17_8, m17_11, m17_12, m17_13, m17_16, m17_17, m17_19, m17_22, m17_23, m17_26, m17_28, m17_29, m17_32, m17_33, m17_34, m17_35, m17_36, m17_37, m17_38, m17_41, m17_43, m17_44, m17_47, m17_48, m17_49, m17_50, m17_51, m17_54, m17_56, m17_57, m17_60, m17_61, m17_62, m17_63, m17_64, m17_67, m17_69, m17_70, m17_71, m17_72, m17_74, m17_75u, m17_77, m17_79, m17_81, m17_82u, m17_84, m17_85u, m17_87, m17_89, m17_91, m17_94, m17_95, m17_98, m17_100, m17_102, m17_103, m17_104, m17_107, m17_109, m17_111, m17_112, m17_113, m17_114, m17_117, m17_120, m17_121i, m17_123, m17_124u, m17_126, m17_128, m17_131, m17_134, m17_136, m17_139, m17_140, m17_143, m17_145, m17_147, m17_148, m17_149, m17_150, m17_151, m17_152, m17_155, m17_156, m17_159, m17_161, m17_163, m17_164, m17_165, m17_166, m17_168, m17_169, m17_170, m17_173, m17_175, m17_176i, m17_178, m17_181, m17_184, m17_185, m17_188, m17_189, m17_191, m17_192, m17_193, m17_196, m17_198, m17_200, m17_201, m18_0, m18_1, m18_2, m18_3u, m18_5, m18_6, m18_7, m18_8u, m18_10, m18_11, m18_12, m18_13u, m18_15, m18_16, m18_17, m18_18u, m18_20, m18_22, m18_23, m18_24u, m18_26, m18_28, m18_29, m18_30u, m18_32, m18_35, m18_36, m18_37, m18_39, m18_42u, m18_44, m18_46, m18_48, m18_51, m18_54, m18_55, m18_56, m18_58, m18_60, m18_63, m18_66, m18_67, m18_68, m18_70, m18_72, m18_75, m18_78, m18_79, m18_80, m18_82, m18_84, m18_87, m18_90, m18_91, m18_92, m18_94, m18_96, m18_99, m18_102, m18_103, m18_104, m18_106, m18_108, m18_111, m18_114, m18_115, m18_116, m18_118, m18_121, m18_122, m18_125, m18_127, m18_130, m18_131, m18_134, m18_135, m18_136, m18_138, m18_140, m18_143, m18_145, m18_147, m18_150, m18_151, m18_154, m18_155u, m18_157, m18_159, m18_161, m18_164, m18_166, m18_168, m18_171, m18_172, m18_175, m18_176u, m18_178, m18_180, m18_182, m18_185, m18_187, m18_189, m18_192, m18_193, m18_196, m18_197u, m18_199, m18_201, m18_203, m18_204, m18_206, m18_207u, m18_209, m18_211, m18_212, m18_215, m18_216, m18_219, m18_221, m18_222, m18_225, m18_226, m18_229, m18_231, m18_232, m18_235, m18_236, m18_239, m18_240u, m18_242, m18_244, m18_247, m18_249, m18_252, m18_253, m18_256, m18_257, m18_260, m18_261, m18_262, m18_264, m18_267, m18_269, m18_272, m18_273, m18_274, m18_276, m18_279, m18_281, m18_284, m18_285, m18_286, m18_288, m18_290, m18_293, m18_295, m18_297, m18_300, m18_302, m18_304, m18_307, m18_308, m18_311, m18_312u, m18_314, m18_315, m18_317, m18_318, m18_320, m18_321u, m18_323, m18_324, m18_326, m18_327, m18_329, m18_330u, m18_332, m18_333, m18_335, m18_336, m18_338, m18_339u, m18_341, m18_342, m18_344, m18_346, m18_349, m18_350, m18_353, m18_354, m18_355, m18_357, m18_359, m18_362, m18_364, m18_366, m18_369, m18_370, m18_373, m18_374, m18_375u, m18_377, m18_378, m18_380, m18_381, m18_382, m18_384, m18_385, m18_386, m18_388, m18_389u, m18_391, m18_392, m18_394, m18_395, m18_396, m18_398, m18_399, m18_400, m18_402, m18_403u, m18_405, m18_407, m18_409, m18_412, m18_413, m18_416, m18_417u, m18_419, m18_421, m18_422, m18_425, m18_428, m18_429, m18_430, m18_432, m18_433, m18_436, m18_438, m18_441, m18_442, m18_443, m18_445, m18_446, m18_449, m18_451, m18_454, m18_455, m18_456, m18_458, m18_459, m18_462, m18_464, m18_467, m18_468, m18_469, m18_471, m18_472, m18_475, m18_476, m18_479, m18_480, m18_481, m18_483, m18_484, m18_487, m18_490, m18_491, m18_492, m18_494, m18_497, m18_499, m18_501, m18_502, m18_504, m18_505, m18_506, m18_507, m18_510, m18_511, m18_514, m18_515, nb0, nb1, ou_a, Option.toList_some, Option.toList_none, List.nil_append, List.cons_append, ou_same, ou_comm, setA_same, getA_set2, setA_len, inB_iff, A0g_0, A0g_1, A0g_2, A0g_3, A0g_4, A0g_5, A0g_6, A0g_7, A0g_8, A0g_9, A0g_10, A0l_0, A0l_1, A0l_2, A0l_3, A0l_4, A0l_5, A0l_6, A0l_7, A0l_8, A0l_9, A0l_10]
    refine ⟨?_, ?_⟩ <;> simp only [ou_a, setA_len, put_len, put_tot, pad_0, tot_nil, List.length_nil, List.length_cons, A0l_0, A0l_1, A0l_2, A0l_3, A0l_4, A0l_5, A0l_6, A0l_7, A0l_8, A0l_9, A0l_10] <;> simp [setA_len, put_len, put_tot, pad_0, tot_nil, List.length_nil, List.length_cons, A0l_0, A0l_1, A0l_2, A0l_3, A0l_4, A0l_5, A0l_6, A0l_7, A0l_8, A0l_9, A0l_10]
set_option maxRecDepth 1000000 in
set_option maxHeartbeats 20000000 in
theorem own_t0101 (i0 : Int32) (i1 : Int32) (i2 : Int32) (i3 : Int32) (i4 : Int32) (i5 : Int32) (e0 : i0 &&& 1 = 0) (e1 : i1 &&& 1 = 1) (e2 : i2 &&& 1 = 0) (e3 : i3 &&& 1 = 1) : W tables_1 dn 0 x code ret 0 (entry [.int i0, .int i1, .int i2, .int i3, .int i4, .int i5] maxLocals) [] [] (fun v H1 => v = some (.int 1) ∧ H1.length - ([] : AHeap).length ≤ 32 ∧ tot tables_1 H1 - tot tables_1 [] ≤ 4224) := by
  show M18 0 [.val (.int i0), .val (.int i1), .val (.int i2), .val (.int i3), .val (.int i4), .val (.int i5), .unset, .unset, .unset, .unset, .unset, .unset, .unset, .unset, .unset, .unset, .unset, .unset, .unset, .unset, .unset, .unset, .unset, .unset, .unset, .unset] [] [] _
  rw [m18_0, m18_1, m18_2, m18_3u, m18_5, m18_6, m18_7, m18_8u, m18_10, m18_11, m18_12, m18_13u, m18_15, m18_16, m18_17, m18_18u, m18_20, m18_22, m18_23, m18_24u, m18_26, m18_28, m18_29, m18_30u, m18_32, m18_35, m18_36, m18_37, m18_39, own_ctor0 rfl]
  rcases own_bit i4 with e4 | e4 <;> rcases own_bit i5 with e5 | e5 <;>
  · simp (maxSteps := 10000000) [e0, e1, e2, e3, e4, e5, m0_0, m0_1, m0_4, m0_5, m0_12, m0_13, m0_20, m0_21, m0_28, m0_29, m0_37, m0_38, m0_46, m0_47, m0_55, m0_56, m0_64, m0_65, m0_73, m0_74, m0_82, m0_83, m0_91, m0_92, m0_99, m0_100u, m0_101, m0_102, m0_103, m0_106, m0_107i, m0_108, m0_109, m0_111, m0_114, m0_116i, m0_117, m0_118u, m0_120, m0_122, m0_124, m0_127, m0_129i, m0_131, m0_133, m0_135, m0_138, m0_140i, m0_142, m0_143, m0_144, m0_147, m0_148, m0_150, m0_153, m0_154, m0_155, m0_158, m0_159, m0_160, m0_163, m0_164, m0_165, m0_168, m0_169, m0_172, m1_0, m1_1, m1_2, m1_5, m1_6, m1_7, m1_10, m1_11, m1_12, m1_15, m1_16, m1_17, m1_20, m1_21, m1_22, m1_25, m2_0, m2_1, m2_4, m2_5, m2_8, m2_11, m2_12, m2_13, m2_16, m2_17, m2_18, m2_19, m2_20, m2_23, m2_24, m2_25, m2_26, m2_27, m2_30, m2_31, m2_32, m2_33, m2_34, m2_37, m2_38, m2_39, m2_40, m2_41, m2_44, m2_45, m2_46, m2_47, m2_48, m2_50, m2_51u, m2_52, m2_53u, m2_54, m2_55, m2_57, m2_60, m2_61, m2_64, m2_65, m2_66, m2_67, m2_68, m2_69, m2_72, m2_75, m3_0, m3_1, m3_4, m3_5, m3_6, m3_9, m3_12, m3_13, m3_14, m3_15, m3_18, m3_19, m3_22, m3_25, m3_26, m3_27, m3_28, m3_31, m3_32, m3_35, m3_36, m3_37, m3_38, m3_39, m3_42, m3_43, m3_44, m3_47, m3_48, m3_49, m3_52, m3_53, m4_0, m4_1, m4_4, m4_5, m4_6, m4_9, m4_12, m4_13, m4_16, m4_17, m4_19, m4_22, m4_23, m4_24, m4_27u, m4_28, m4_29, m4_30, m4_33, m4_34, m4_35, m4_38, m4_39, m4_40, m4_43, m4_44, m4_47, m4_48, m4_49, m4_52, m4_53, m4_56, m4_57, m4_58, m4_59, m4_60, m4_61, m4_64, m4_65, m4_66, m4_69, m4_70, m4_71, m4_72, m4_73, m4_74, m4_75, m4_76, m4_79, m4_80, m4_81, m4_84u, m4_85, m4_86, m4_89, m4_90, m4_93, m4_94, m4_95, m4_96, m4_99, m4_100, m4_103, m4_104, m4_106, m4_107, m4_108, m4_109, m4_110u, m4_112, m4_113, m4_116, m4_117, m4_118, m4_119, m4_120, m4_121, m4_124, m4_126, m4_127, m4_130, m4_131, m4_134, m4_135, m4_137, m4_138, m4_141, m4_142, m4_143, m4_144, m4_146, m4_147, m4_150, m4_151, m4_152, m4_155, m4_156, m4_157, m4_160, m4_161, m4_164, m4_165, m4_166, m4_167, m4_170, m4_171, m4_174, m4_175, m4_176, m4_177, m4_178, m4_179, m4_182, m4_183, m4_184, m4_187, m5_0, m5_1u, m5_3, m5_4u, m5_6, m5_8, m5_11, m5_14, m5_16, m5_19, m5_20, m5_23, m5_25, m5_27, m5_28, m5_29, m5_30, m5_31, m5_34, m5_35, m5_38, m5_40, m5_42, m5_43, m5_44, m5_45, m5_46, m5_47, m5_48, m5_51, m5_53, m5_54i, m5_56, m5_59, m5_62, m5_64, m6_0, m6_1, m6_4, m6_5, m6_6, m6_9, m6_12, m6_13, m6_14, m6_15, m6_18, m6_20, m6_23, m6_24, m6_25, m6_26, m6_29, m6_30, m6_33, m6_34, m6_35, m6_36, m6_37, m6_40, m6_41, m6_42, m6_45, m6_46, m7_0, m7_1, m7_4, m8_0, m8_1, m8_4, m9_0, m9_1, m9_4, m9_7, m9_8, m9_9, m9_10, m9_13, m9_14, m9_17, m9_20, m9_21, m9_22, m9_23, m9_26, m9_27, m9_30, m9_31, m9_34, m9_35, m10_0, m10_1u, m10_2, m10_3u, m10_4, m10_5, m10_6, m10_9, m10_12, m10_13, m10_15, m10_18, m10_19, m10_22, m10_23, m10_24u, m10_24i, m10_24r, m10_25, m10_26, m10_29, m10_30, m10_32, m10_35, m10_36, m10_37, m10_38, m10_41, m10_42, m10_44, m10_45, m10_46, m10_47, m10_48u, m10_48i, m10_48r, m10_50, m10_52, m10_55, m10_56, m10_57, m10_59i, m10_60, m10_63, m10_66, m10_67, m11_0, m11_1, m11_4, m11_7, m11_8, m11_11, m11_12, m11_13, m11_14, m11_15, m11_18, m11_19, m11_22, m11_25, m11_26, m11_27, m11_28, m11_31u, m11_32, m11_33, m11_34, m11_37, m11_38, m11_39, m11_40, m11_43, m11_44, m11_47, m11_48, m11_49, m12_0, m12_1, m12_4, m12_7, m12_8, m12_9, m12_12, m12_13u, m12_14, m12_15, m12_16, m12_19, m12_22, m12_23, m12_26, m12_29, m12_30, m12_33, m12_34, m12_35, m12_38, m12_39, m12_42, m12_43, m12_44, m12_47, m12_48, m12_51, m12_52, m12_53, m12_56, m12_59, m12_60, m12_63, m12_64, m12_65i, m12_66, m12_67, m12_68, m12_71, m12_72, m12_75, m12_76, m12_77u, m12_77i, m12_77r, m12_78, m12_79, m12_82, m12_83, m12_84u, m12_84i, m12_84r, m12_85, m12_86, m12_89, m12_90, m12_93, m12_94, m12_95, m12_96, m12_97, m12_100, m12_101, m12_102, m12_103, m12_104, m12_107, m12_110, m12_111, m12_112, m12_115, m13_0, m13_1u, m13_2, m13_3, m13_5, m13_8, m13_9, m13_12, m13_13, m13_14, m13_15, m13_18, m13_21, m13_22i, m13_23, m13_24, m13_25, m13_28, m13_31, m13_32, m13_35, m13_38, m13_39, m13_42, m13_43, m13_46, m13_47, m13_48, m13_49, m13_50, m13_51, m13_52, m13_53, m13_56, m13_59, m13_60i, m13_61, m13_62, m13_64, m13_67, m13_68, m13_71, m13_72, m13_73, m13_74, m13_75, m13_78, m13_79, m13_80, m13_81, m13_82, m13_83, m13_84, m13_87, m13_90, m13_91, m13_94, m13_95, m13_96i, m13_97, m13_98, m13_101, m13_102, m13_105, m13_106, m13_107u, m13_107i, m13_107r, m13_108, m13_109, m13_112, m13_113, m13_114, m13_115, m13_116, m13_117, m13_118, m13_119, m13_122, m13_123, m13_124u, m13_124i, m13_124r, m13_125, m13_126, m13_129, m13_130, m13_133, m13_136, m13_137, m13_140, m13_141, m13_142, m13_143, m13_146, m13_149, m14_0, m14_1, m14_4, m14_7, m14_8, m14_9, m14_10, m14_13, m14_14, m14_17, m14_20, m14_21, m14_22, m14_23, m14_26u, m14_27, m14_28, m14_29, m14_32, m14_33, m14_34, m14_35, m14_38, m14_39, m14_40, m14_41, m14_44, m14_45, m14_46, m14_47, m15_0, m15_1, m15_4, m15_5, m15_6, m15_9, m15_12, m15_13, m15_14, m15_15u, m15_16, m15_17u, m15_18, m15_19, m15_20, m15_23, m15_26, m15_27, m15_30, m15_33, m15_34, m15_37, m15_38, m15_39u, m15_39i, m15_39r, m15_41, m15_43, m15_46, m15_47, m15_50, m15_52, m15_53, m15_54, m15_57, m15_58, m15_59, m15_62, m15_63, m15_64, m15_67, m15_70, m15_73, m15_76, m15_77, m16_0, m16_1, m16_4, m17_0, m17_1, m17_4u, m17_6, m17_7, m17_8, m17_11, m17_12, m17_13, m17_16, m17_17, m17_19, m17_22, m17_23, m17_26, m17_28, m17_29, m17_32, m17_33, m17_34, m17_35, m17_36, m17_37, m17_38, m17_41, m17_43, m17_44, m17_47, m17_48, m17_49, m17_50, m17_51, m17_54, m17_56, m17_57, m17_60, m17_61, m17_62, m17_63, m17_64, m17_67, m17_69, m17_70, m17_71, m17_72, m17_74, m17_75u, m17_77, m17_79, m17_81, m17_82u, m17_84, m17_85u, m17_87, m17_89, m17_91, m17_94, m17_95, m17_98, m17_100, m17_102, m17_103, m17_104, m17_107, m17_109, m17_111, m17_112, m17_113, m17_114, m17_117, m17_120, m17_121i, m17_123, m17_124u, m17_126, m17_128, m17_131, m17_134, m17_136, m17_139, m17_140, m17_143, m17_145, m17_147, m17_148, m17_149, m17_150, m17_151, m17_152, m17_155, m17_156, m17_159, m17_161, m17_163, m17_164, m17_165, m17_166, m17_168, m17_169, m17_170, m17_173, m17_175, m17_176i, m17_178, m17_181, m17_184, m17_185, m17_188, m17_189, m17_191, m17_192, m17_193, m17_196, m17_198, m17_200, m17_201, m18_0, m18_1, m18_2, m18_3u, m18_5, m18_6, m18_7, m18_8u, m18_10, m18_11, m18_12, m18_13u, m18_15, m18_16, m18_17, m18_18u, m18_20, m18_22, m18_23, m18_24u, m18_26, m18_28, m18_29, m18_30u, m18_32, m18_35, m18_36, m18_37, m18_39, m18_42u, m18_44, m18_46, m18_48, m18_51, m18_54, m18_55, m18_56, m18_58, m18_60, m18_63, m18_66, m18_67, m18_68, m18_70, m18_72, m18_75, m18_78, m18_79, m18_80, m18_82, m18_84, m18_87, m18_90, m18_91, m18_92, m18_94, m18_96, m18_99, m18_102, m18_103, m18_104, m18_106, m18_108, m18_111, m18_114, m18_115, m18_116, m18_118, m18_121, m18_122, m18_125, m18_127, m18_130, m18_131, m18_134, m18_135, m18_136, m18_138, m18_140, m18_143, m18_145, m18_147, m18_150, m18_151, m18_154, m18_155u, m18_157, m18_159, m18_161, m18_164, m18_166, m18_168, m18_171, m18_172, m18_175, m18_176u, m18_178, m18_180, m18_182, m18_185, m18_187, m18_189, m18_192, m18_193, m18_196, m18_197u, m18_199, m18_201, m18_203, m18_204, m18_206, m18_207u, m18_209, m18_211, m18_212, m18_215, m18_216, m18_219, m18_221, m18_222, m18_225, m18_226, m18_229, m18_231, m18_232, m18_235, m18_236, m18_239, m18_240u, m18_242, m18_244, m18_247, m18_249, m18_252, m18_253, m18_256, m18_257, m18_260, m18_261, m18_262, m18_264, m18_267, m18_269, m18_272, m18_273, m18_274, m18_276, m18_279, m18_281, m18_284, m18_285, m18_286, m18_288, m18_290, m18_293, m18_295, m18_297, m18_300, m18_302, m18_304, m18_307, m18_308, m18_311, m18_312u, m18_314, m18_315, m18_317, m18_318, m18_320, m18_321u, m18_323, m18_324, m18_326, m18_327, m18_329, m18_330u, m18_332, m18_333, m18_335, m18_336, m18_338, m18_339u, m18_341, m18_342, m18_344, m18_346, m18_349, m18_350, m18_353, m18_354, m18_355, m18_357, m18_359, m18_362, m18_364, m18_366, m18_369, m18_370, m18_373, m18_374, m18_375u, m18_377, m18_378, m18_380, m18_381, m18_382, m18_384, m18_385, m18_386, m18_388, m18_389u, m18_391, m18_392, m18_394, m18_395, m18_396, m18_398, m18_399, m18_400, m18_402, m18_403u, m18_405, m18_407, m18_409, m18_412, m18_413, m18_416, m18_417u, m18_419, m18_421, m18_422, m18_425, m18_428, m18_429, m18_430, m18_432, m18_433, m18_436, m18_438, m18_441, m18_442, m18_443, m18_445, m18_446, m18_449, m18_451, m18_454, m18_455, m18_456, m18_458, m18_459, m18_462, m18_464, m18_467, m18_468, m18_469, m18_471, m18_472, m18_475, m18_476, m18_479, m18_480, m18_481, m18_483, m18_484, m18_487, m18_490, m18_491, m18_492, m18_494, m18_497, m18_499, m18_501, m18_502, m18_504, m18_505, m18_506, m18_507, m18_510, m18_511, m18_514, m18_515, nb0, nb1, ou_a, Option.toList_some, Option.toList_none, List.nil_append, List.cons_append, ou_same, ou_comm, setA_same, getA_set2, setA_len, inB_iff, A0g_0, A0g_1, A0g_2, A0g_3, A0g_4, A0g_5, A0g_6, A0g_7, A0g_8, A0g_9, A0g_10, A0l_0, A0l_1, A0l_2, A0l_3, A0l_4, A0l_5, A0l_6, A0l_7, A0l_8, A0l_9, A0l_10]
    refine ⟨?_, ?_⟩ <;> simp only [ou_a, setA_len, put_len, put_tot, pad_0, tot_nil, List.length_nil, List.length_cons, A0l_0, A0l_1, A0l_2, A0l_3, A0l_4, A0l_5, A0l_6, A0l_7, A0l_8, A0l_9, A0l_10] <;> simp [setA_len, put_len, put_tot, pad_0, tot_nil, List.length_nil, List.length_cons, A0l_0, A0l_1, A0l_2, A0l_3, A0l_4, A0l_5, A0l_6, A0l_7, A0l_8, A0l_9, A0l_10]
set_option maxRecDepth 1000000 in
set_option maxHeartbeats 20000000 in
theorem own_t1101 (i0 : Int32) (i1 : Int32) (i2 : Int32) (i3 : Int32) (i4 : Int32) (i5 : Int32) (e0 : i0 &&& 1 = 1) (e1 : i1 &&& 1 = 1) (e2 : i2 &&& 1 = 0) (e3 : i3 &&& 1 = 1) : W tables_1 dn 0 x code ret 0 (entry [.int i0, .int i1, .int i2, .int i3, .int i4, .int i5] maxLocals) [] [] (fun v H1 => v = some (.int 1) ∧ H1.length - ([] : AHeap).length ≤ 32 ∧ tot tables_1 H1 - tot tables_1 [] ≤ 4224) := by
  show M18 0 [.val (.int i0), .val (.int i1), .val (.int i2), .val (.int i3), .val (.int i4), .val (.int i5), .unset, .unset, .unset, .unset, .unset, .unset, .unset, .unset, .unset, .unset, .unset, .unset, .unset, .unset, .unset, .unset, .unset, .unset, .unset, .unset] [] [] _
  rw [m18_0, m18_1, m18_2, m18_3u, m18_5, m18_6, m18_7, m18_8u, m18_10, m18_11, m18_12, m18_13u, m18_15, m18_16, m18_17, m18_18u, m18_20, m18_22, m18_23, m18_24u, m18_26, m18_28, m18_29, m18_30u, m18_32, m18_35, m18_36, m18_37, m18_39, own_ctor0 rfl]
  rcases own_bit i4 with e4 | e4 <;> rcases own_bit i5 with e5 | e5 <;>
  · simp (maxSteps := 10000000) [e0, e1, e2, e3, e4, e5, m0_0, m0_1, m0_4, m0_5, m0_12, m0_13, m0_20, m0_21, m0_28, m0_29, m0_37, m0_38, m0_46, m0_47, m0_55, m0_56, m0_64, m0_65, m0_73, m0_74, m0_82, m0_83, m0_91, m0_92, m0_99, m0_100u, m0_101, m0_102, m0_103, m0_106, m0_107i, m0_108, m0_109, m0_111, m0_114, m0_116i, m0_117, m0_118u, m0_120, m0_122, m0_124, m0_127, m0_129i, m0_131, m0_133, m0_135, m0_138, m0_140i, m0_142, m0_143, m0_144, m0_147, m0_148, m0_150, m0_153, m0_154, m0_155, m0_158, m0_159, m0_160, m0_163, m0_164, m0_165, m0_168, m0_169, m0_172, m1_0, m1_1, m1_2, m1_5, m1_6, m1_7, m1_10, m1_11, m1_12, m1_15, m1_16, m1_17, m1_20, m1_21, m1_22, m1_25, m2_0, m2_1, m2_4, m2_5, m2_8, m2_11, m2_12, m2_13, m2_16, m2_17, m2_18, m2_19, m2_20, m2_23, m2_24, m2_25, m2_26, m2_27, m2_30, m2_31, m2_32, m2_33, m2_34, m2_37, m2_38, m2_39, m2_40, m2_41, m2_44, m2_45, m2_46, m2_47, m2_48, m2_50, m2_51u, m2_52, m2_53u, m2_54, m2_55, m2_57, m2_60, m2_61, m2_64, m2_65, m2_66, m2_67, m2_68, m2_69, m2_72, m2_75, m3_0, m3_1, m3_4, m3_5, m3_6, m3_9, m3_12, m3_13, m3_14, m3_15, m3_18, m3_19, m3_22, m3_25, m3_26, m3_27, m3_28, m3_31, m3_32, m3_35, m3_36, m3_37, m3_38, m3_39, m3_42, m3_43, m3_44, m3_47, m3_48, m3_49, m3_52, m3_53, m4_0, m4_1, m4_4, m4_5, m4_6, m4_9, m4_12, m4_13, m4_16, m4_17, m4_19, m4_22, m4_23, m4_24, m4_27u, m4_28, m4_29, m4_30, m4_33, m4_34, m4_35, m4_38, m4_39, m4_40, m4_43, m4_44, m4_47, m4_48, m4_49, m4_52, m4_53, m4_56, m4_57, m4_58, m4_59, m4_60, m4_61, m4_64, m4_65, m4_66, m4_69, m4_70, m4_71, m4_72, m4_73, m4_74, m4_75, m4_76, m4_79, m4_80, m4_81, m4_84u, m4_85, m4_86, m4_89, m4_90, m4_93, m4_94, m4_95, m4_96, m4_99, m4_100, m4_103, m4_104, m4_106, m4_107, m4_108, m4_109, m4_110u, m4_112, m4_113, m4_116, m4_117, m4_118, m4_119, m4_120, m4_121, m4_124, m4_126, m4_127, m4_130, m4_131, m4_134, m4_135, m4_137, m4_138, m4_141, m4_142, m4_143, m4_144, m4_146, m4_147, m4_150, m4_151, m4_152, m4_155, m4_156, m4_157, m4_160, m4_161, m4_164, m4_165, m4_166, m4_167, m4_170, m4_171, m4_174, m4_175, m4_176, m4_177, m4_178, m4_179, m4_182, m4_183, m4_184, m4_187, m5_0, m5_1u, m5_3, m5_4u, m5_6, m5_8, m5_11, m5_14, m5_16, m5_19, m5_20, m5_23, m5_25, m5_27, m5_28, m5_29, m5_30, m5_31, m5_34, m5_35, m5_38, m5_40, m5_42, m5_43, m5_44, m5_45, m5_46, m5_47, m5_48, m5_51, m5_53, m5_54i, m5_56, m5_59, m5_62, m5_64, m6_0, m6_1, m6_4, m6_5, m6_6, m6_9, m6_12, m6_13, m6_14, m6_15, m6_18, m6_20, m6_23, m6_24, m6_25, m6_26, m6_29, m6_30, m6_33, m6_34, m6_35, m6_36, m6_37, m6_40, m6_41, m6_42, m6_45, m6_46, m7_0, m7_1, m7_4, m8_0, m8_1, m8_4, m9_0, m9_1, m9_4, m9_7, m9_8, m9_9, m9_10, m9_13, m9_14, m9_17, m9_20, m9_21, m9_22, m9_23, m9_26, m9_27, m9_30, m9_31, m9_34, m9_35, m10_0, m10_1u, m10_2, m10_3u, m10_4, m10_5, m10_6, m10_9, m10_12, m10_13, m10_15, m10_18, m10_19, m10_22, m10_23, m10_24u, m10_24i, m10_24r, m10_25, m10_26, m10_29, m10_30, m10_32, m10_35, m10_36, m10_37, m10_38, m10_41, m10_42, m10_44, m10_45, m10_46, m10_47, m10_48u, m10_48i, m10_48r, m10_50, m10_52, m10_55, m10_56, m10_57, m10_59i, m10_60, m10_63, m10_66, m10_67, m11_0, m11_1, m11_4, m11_7, m11_8, m11_11, m11_12, m11_13, m11_14, m11_15, m11_18, m11_19, m11_22, m11_25, m11_26, m11_27, m11_28, m11_31u, m11_32, m11_33, m11_34, m11_37, m11_38, m11_39, m11_40, m11_43, m11_44, m11_47, m11_48, m11_49, m12_0, m12_1, m12_4, m12_7, m12_8, m12_9, m12_12, m12_13u, m12_14, m12_15, m12_16, m12_19, m12_22, m12_23, m12_26, m12_29, m12_30, m12_33, m12_34, m12_35, m12_38, m12_39, m12_42, m12_43, m12_44, m12_47, m12_48, m12_51, m12_52, m12_53, m12_56, m12_59, m12_60, m12_63, m12_64, m12_65i, m12_66, m12_67, m12_68, m12_71, m12_72, m12_75, m12_76, m12_77u, m12_77i, m12_77r, m12_78, m12_79, m12_82, m12_83, m12_84u, m12_84i, m12_84r, m12_85, m12_86, m12_89, m12_90, m12_93, m12_94, m12_95, m12_96, m12_97, m12_100, m12_101, m12_102, m12_103, m12_104, m12_107, m12_110, m12_111, m12_112, m12_115, m13_0, m13_1u, m13_2, m13_3, m13_5, m13_8, m13_9, m13_12, m13_13, m13_14, m13_15, m13_18, m13_21, m13_22i, m13_23, m13_24, m13_25, m13_28, m13_31, m13_32, m13_35, m13_38, m13_39, m13_42, m13_43, m13_46, m13_47, m13_48, m13_49, m13_50, m13_51, m13_52, m13_53, m13_56, m13_59, m13_60i, m13_61, m13_62, m13_64, m13_67, m13_68, m13_71, m13_72, m13_73, m13_74, m13_75, m13_78, m13_79, m13_80, m13_81, m13_82, m13_83, m13_84, m13_87, m13_90, m13_91, m13_94, m13_95, m13_96i, m13_97, m13_98, m13_101, m13_102, m13_105, m13_106, m13_107u, m13_107i, m13_107r, m13_108, m13_109, m13_112, m13_113, m13_114, m13_115, m13_116, m13_117, m13_118, m13_119, m13_122, m13_123, m13_124u, m13_124i, m13_124r, m13_125, m13_126, m13_129, m13_130, m13_133, m13_136, m13_137, m13_140, m13_141, m13_142, m13_143, m13_146, m13_149, m14_0, m14_1, m14_4, m14_7, m14_8, m14_9, m14_10, m14_13, m14_14, m14_17, m14_20, m14_21, m14_22, m14_23, m14_26u, m14_27, m14_28, m14_29, m14_32, m14_33, m14_34, m14_35, m14_38, m14_39, m14_40, m14_41, m14_44, m14_45, m14_46, m14_47, m15_0, m15_1, m15_4, m15_5, m15_6, m15_9, m15_12, m15_13, m15_14, m15_15u, m15_16, m15_17u, m15_18, m15_19, m15_20, m15_23, m15_26, m15_27, m15_30, m15_33, m15_34, m15_37, m15_38, m15_39u, m15_39i, m15_39r, m15_41, m15_43, m15_46, m15_47, m15_50, m15_52, m15_53, m15_54, m15_57, m15_58, m15_59, m15_62, m15_63, m15_64, m15_67, m15_70, m15_73, m15_76, m15_77, m16_0, m16_1, m16_4, m17_0, m17_1, m17_4u, m17_6, m17_7, m17_8, m17_11, m17_12, m17_13, m17_16, m17_17, m17_19, m17_22, m17_23, m17_26, m17_28, m17_29, m17_32, m17_33, m17_34, m17_35, m17_36, m17_37, m17_38, m17_41, m17_43, m17_44, m17_47, m17_48, m17_49, m17_50, m17_51, m17_54, m17_56, m17_57, m17_60, m17_61, m17_62, m17_63, m17_64, m17_67, m17_69, m17_70, m17_71, m17_72, m17_74, m17_75u, m17_77, m17_79, m17_81, m17_82u, m17_84, m17_85u, m17_87, m17_89, m17_91, m17_94, m17_95, m17_98, m17_100, m17_102, m17_103, m17_104, m17_107, m17_109, m17_111, m17_112, m17_113, m17_114, m17_117, m17_120, m17_121i, m17_123, m17_124u, m17_126, m17_128, m17_131, m17_134, m17_136, m17_139, m17_140, m17_143, m17_145, m17_147, m17_148, m17_149, m17_150, m17_151, m17_152, m17_155, m17_156, m17_159, m17_161, m17_163, m17_164, m17_165, m17_166, m17_168, m17_169, m17_170, m17_173, m17_175, m17_176i, m17_178, m17_181, m17_184, m17_185, m17_188, m17_189, m17_191, m17_192, m17_193, m17_196, m17_198, m17_200, m17_201, m18_0, m18_1, m18_2, m18_3u, m18_5, m18_6, m18_7, m18_8u, m18_10, m18_11, m18_12, m18_13u, m18_15, m18_16, m18_17, m18_18u, m18_20, m18_22, m18_23, m18_24u, m18_26, m18_28, m18_29, m18_30u, m18_32, m18_35, m18_36, m18_37, m18_39, m18_42u, m18_44, m18_46, m18_48, m18_51, m18_54, m18_55, m18_56, m18_58, m18_60, m18_63, m18_66, m18_67, m18_68, m18_70, m18_72, m18_75, m18_78, m18_79, m18_80, m18_82, m18_84, m18_87, m18_90, m18_91, m18_92, m18_94, m18_96, m18_99, m18_102, m18_103, m18_104, m18_106, m18_108, m18_111, m18_114, m18_115, m18_116, m18_118, m18_121, m18_122, m18_125, m18_127, m18_130, m18_131, m18_134, m18_135, m18_136, m18_138, m18_140, m18_143, m18_145, m18_147, m18_150, m18_151, m18_154, m18_155u, m18_157, m18_159, m18_161, m18_164, m18_166, m18_168, m18_171, m18_172, m18_175, m18_176u, m18_178, m18_180, m18_182, m18_185, m18_187, m18_189, m18_192, m18_193, m18_196, m18_197u, m18_199, m18_201, m18_203, m18_204, m18_206, m18_207u, m18_209, m18_211, m18_212, m18_215, m18_216, m18_219, m18_221, m18_222, m18_225, m18_226, m18_229, m18_231, m18_232, m18_235, m18_236, m18_239, m18_240u, m18_242, m18_244, m18_247, m18_249, m18_252, m18_253, m18_256, m18_257, m18_260, m18_261, m18_262, m18_264, m18_267, m18_269, m18_272, m18_273, m18_274, m18_276, m18_279, m18_281, m18_284, m18_285, m18_286, m18_288, m18_290, m18_293, m18_295, m18_297, m18_300, m18_302, m18_304, m18_307, m18_308, m18_311, m18_312u, m18_314, m18_315, m18_317, m18_318, m18_320, m18_321u, m18_323, m18_324, m18_326, m18_327, m18_329, m18_330u, m18_332, m18_333, m18_335, m18_336, m18_338, m18_339u, m18_341, m18_342, m18_344, m18_346, m18_349, m18_350, m18_353, m18_354, m18_355, m18_357, m18_359, m18_362, m18_364, m18_366, m18_369, m18_370, m18_373, m18_374, m18_375u, m18_377, m18_378, m18_380, m18_381, m18_382, m18_384, m18_385, m18_386, m18_388, m18_389u, m18_391, m18_392, m18_394, m18_395, m18_396, m18_398, m18_399, m18_400, m18_402, m18_403u, m18_405, m18_407, m18_409, m18_412, m18_413, m18_416, m18_417u, m18_419, m18_421, m18_422, m18_425, m18_428, m18_429, m18_430, m18_432, m18_433, m18_436, m18_438, m18_441, m18_442, m18_443, m18_445, m18_446, m18_449, m18_451, m18_454, m18_455, m18_456, m18_458, m18_459, m18_462, m18_464, m18_467, m18_468, m18_469, m18_471, m18_472, m18_475, m18_476, m18_479, m18_480, m18_481, m18_483, m18_484, m18_487, m18_490, m18_491, m18_492, m18_494, m18_497, m18_499, m18_501, m18_502, m18_504, m18_505, m18_506, m18_507, m18_510, m18_511, m18_514, m18_515, nb0, nb1, ou_a, Option.toList_some, Option.toList_none, List.nil_append, List.cons_append, ou_same, ou_comm, setA_same, getA_set2, setA_len, inB_iff, A0g_0, A0g_1, A0g_2, A0g_3, A0g_4, A0g_5, A0g_6, A0g_7, A0g_8, A0g_9, A0g_10, A0l_0, A0l_1, A0l_2, A0l_3, A0l_4, A0l_5, A0l_6, A0l_7, A0l_8, A0l_9, A0l_10]
    refine ⟨?_, ?_⟩ <;> simp only [ou_a, setA_len, put_len, put_tot, pad_0, tot_nil, List.length_nil, List.length_cons, A0l_0, A0l_1, A0l_2, A0l_3, A0l_4, A0l_5, A0l_6, A0l_7, A0l_8, A0l_9, A0l_10] <;> simp [setA_len, put_len, put_tot, pad_0, tot_nil, List.length_nil, List.length_cons, A0l_0, A0l_1, A0l_2, A0l_3, A0l_4, A0l_5, A0l_6, A0l_7, A0l_8, A0l_9, A0l_10]
set_option maxRecDepth 1000000 in
set_option maxHeartbeats 20000000 in
theorem own_t0011 (i0 : Int32) (i1 : Int32) (i2 : Int32) (i3 : Int32) (i4 : Int32) (i5 : Int32) (e0 : i0 &&& 1 = 0) (e1 : i1 &&& 1 = 0) (e2 : i2 &&& 1 = 1) (e3 : i3 &&& 1 = 1) : W tables_1 dn 0 x code ret 0 (entry [.int i0, .int i1, .int i2, .int i3, .int i4, .int i5] maxLocals) [] [] (fun v H1 => v = some (.int 1) ∧ H1.length - ([] : AHeap).length ≤ 32 ∧ tot tables_1 H1 - tot tables_1 [] ≤ 4224) := by
  show M18 0 [.val (.int i0), .val (.int i1), .val (.int i2), .val (.int i3), .val (.int i4), .val (.int i5), .unset, .unset, .unset, .unset, .unset, .unset, .unset, .unset, .unset, .unset, .unset, .unset, .unset, .unset, .unset, .unset, .unset, .unset, .unset, .unset] [] [] _
  rw [m18_0, m18_1, m18_2, m18_3u, m18_5, m18_6, m18_7, m18_8u, m18_10, m18_11, m18_12, m18_13u, m18_15, m18_16, m18_17, m18_18u, m18_20, m18_22, m18_23, m18_24u, m18_26, m18_28, m18_29, m18_30u, m18_32, m18_35, m18_36, m18_37, m18_39, own_ctor0 rfl]
  rcases own_bit i4 with e4 | e4 <;> rcases own_bit i5 with e5 | e5 <;>
  · simp (maxSteps := 10000000) [e0, e1, e2, e3, e4, e5, m0_0, m0_1, m0_4, m0_5, m0_12, m0_13, m0_20, m0_21, m0_28, m0_29, m0_37, m0_38, m0_46, m0_47, m0_55, m0_56, m0_64, m0_65, m0_73, m0_74, m0_82, m0_83, m0_91, m0_92, m0_99, m0_100u, m0_101, m0_102, m0_103, m0_106, m0_107i, m0_108, m0_109, m0_111, m0_114, m0_116i, m0_117, m0_118u, m0_120, m0_122, m0_124, m0_127, m0_129i, m0_131, m0_133, m0_135, m0_138, m0_140i, m0_142, m0_143, m0_144, m0_147, m0_148, m0_150, m0_153, m0_154, m0_155, m0_158, m0_159, m0_160, m0_163, m0_164, m0_165, m0_168, m0_169, m0_172, m1_0, m1_1, m1_2, m1_5, m1_6, m1_7, m1_10, m1_11, m1_12, m1_15, m1_16, m1_17, m1_20, m1_21, m1_22, m1_25, m2_0, m2_1, m2_4, m2_5, m2_8, m2_11, m2_12, m2_13, m2_16, m2_17, m2_18, m2_19, m2_20, m2_23, m2_24, m2_25, m2_26, m2_27, m2_30, m2_31, m2_32, m2_33, m2_34, m2_37, m2_38, m2_39, m2_40, m2_41, m2_44, m2_45, m2_46, m2_47, m2_48, m2_50, m2_51u, m2_52, m2_53u, m2_54, m2_55, m2_57, m2_60, m2_61, m2_64, m2_65, m2_66, m2_67, m2_68, m2_69, m2_72, m2_75, m3_0, m3_1, m3_4, m3_5, m3_6, m3_9, m3_12, m3_13, m3_14, m3_15, m3_18, m3_19, m3_22, m3_25, m3_26, m3_27, m3_28, m3_31, m3_32, m3_35, m3_36, m3_37, m3_38, m3_39, m3_42, m3_43, m3_44, m3_47, m3_48, m3_49, m3_52, m3_53, m4_0, m4_1, m4_4, m4_5, m4_6, m4_9, m4_12, m4_13, m4_16, m4_17, m4_19, m4_22, m4_23, m4_24, m4_27u, m4_28, m4_29, m4_30, m4_33, m4_34, m4_35, m4_38, m4_39, m4_40, m4_43, m4_44, m4_47, m4_48, m4_49, m4_52, m4_53, m4_56, m4_57, m4_58, m4_59, m4_60, m4_61, m4_64, m4_65, m4_66, m4_69, m4_70, m4_71, m4_72, m4_73, m4_74, m4_75, m4_76, m4_79, m4_80, m4_81, m4_84u, m4_85, m4_86, m4_89, m4_90, m4_93, m4_94, m4_95, m4_96, m4_99, m4_100, m4_103, m4_104, m4_106, m4_107, m4_108, m4_109, m4_110u, m4_112, m4_113, m4_116, m4_117, m4_118, m4_119, m4_120, m4_121, m4_124, m4_126, m4_127, m4_130, m4_131, m4_134, m4_135, m4_137, m4_138, m4_141, m4_142, m4_143, m4_144, m4_146, m4_147, m4_150, m4_151, m4_152, m4_155, m4_156, m4_157, m4_160, m4_161, m4_164, m4_165, m4_166, m4_167, m4_170, m4_171, m4_174, m4_175, m4_176, m4_177, m4_178, m4_179, m4_182, m4_183, m4_184, m4_187, m5_0, m5_1u, m5_3, m5_4u, m5_6, m5_8, m5_11, m5_14, m5_16, m5_19, m5_20, m5_23, m5_25, m5_27, m5_28, m5_29, m5_30, m5_31, m5_34, m5_35, m5_38, m5_40, m5_42, m5_43, m5_44, m5_45, m5_46, m5_47, m5_48, m5_51, m5_53, m5_54i, m5_56, m5_59, m5_62, m5_64, m6_0, m6_1, m6_4, m6_5, m6_6, m6_9, m6_12, m6_13, m6_14, m6_15, m6_18, m6_20, m6_23, m6_24, m6_25, m6_26, m6_29, m6_30, m6_33, m6_34, m6_35, m6_36, m6_37, m6_40, m6_41, m6_42, m6_45, m6_46, m7_0, m7_1, m7_4, m8_0, m8_1, m8_4, m9_0, m9_1, m9_4, m9_7, m9_8, m9_9, m9_10, m9_13, m9_14, m9_17, m9_20, m9_21, m9_22, m9_23, m9_26, m9_27, m9_30, m9_31, m9_34, m9_35, m10_0, m10_1u, m10_2, m10_3u, m10_4, m10_5, m10_6, m10_9, m10_12, m10_13, m10_15, m10_18, m10_19, m10_22, m10_23, m10_24u, m10_24i, m10_24r, m10_25, m10_26, m10_29, m10_30, m10_32, m10_35, m10_36, m10_37, m10_38, m10_41, m10_42, m10_44, m10_45, m10_46, m10_47, m10_48u, m10_48i, m10_48r, m10_50, m10_52, m10_55, m10_56, m10_57, m10_59i, m10_60, m10_63, m10_66, m10_67, m11_0, m11_1, m11_4, m11_7, m11_8, m11_11, m11_12, m11_13, m11_14, m11_15, m11_18, m11_19, m11_22, m11_25, m11_26, m11_27, m11_28, m11_31u, m11_32, m11_33, m11_34, m11_37, m11_38, m11_39, m11_40, m11_43, m11_44, m11_47, m11_48, m11_49, m12_0, m12_1, m12_4, m12_7, m12_8, m12_9, m12_12, m12_13u, m12_14, m12_15, m12_16, m12_19, m12_22, m12_23, m12_26, m12_29, m12_30, m12_33, m12_34, m12_35, m12_38, m12_39, m12_42, m12_43, m12_44, m12_47, m12_48, m12_51, m12_52, m12_53, m12_56, m12_59, m12_60, m12_63, m12_64, m12_65i, m12_66, m12_67, m12_68, m12_71, m12_72, m12_75, m12_76, m12_77u, m12_77i, m12_77r, m12_78, m12_79, m12_82, m12_83, m12_84u, m12_84i, m12_84r, m12_85, m12_86, m12_89, m12_90, m12_93, m12_94, m12_95, m12_96, m12_97, m12_100, m12_101, m12_102, m12_103, m12_104, m12_107, m12_110, m12_111, m12_112, m12_115, m13_0, m13_1u, m13_2, m13_3, m13_5, m13_8, m13_9, m13_12, m13_13, m13_14, m13_15, m13_18, m13_21, m13_22i, m13_23, m13_24, m13_25, m13_28, m13_31, m13_32, m13_35, m13_38, m13_39, m13_42, m13_43, m13_46, m13_47, m13_48, m13_49, m13_50, m13_51, m13_52, m13_53, m13_56, m13_59, m13_60i, m13_61, m13_62, m13_64, m13_67, m13_68, m13_71, m13_72, m13_73, m13_74, m13_75, m13_78, m13_79, m13_80, m13_81, m13_82, m13_83, m13_84, m13_87, m13_90, m13_91, m13_94, m13_95, m13_96i, m13_97, m13_98, m13_101, m13_102, m13_105, m13_106, m13_107u, m13_107i, m13_107r, m13_108, m13_109, m13_112, m13_113, m13_114, m13_115, m13_116, m13_117, m13_118, m13_119, m13_122, m13_123, m13_124u, m13_124i, m13_124r, m13_125, m13_126, m13_129, m13_130, m13_133, m13_136, m13_137, m13_140, m13_141, m13_142, m13_143, m13_146, m13_149, m14_0, m14_1, m14_4, m14_7, m14_8, m14_9, m14_10, m14_13, m14_14, m14_17, m14_20, m14_21, m14_22, m14_23, m14_26u, m14_27, m14_28, m14_29, m14_32, m14_33, m14_34, m14_35, m14_38, m14_39, m14_40, m14_41, m14_44, m14_45, m14_46, m14_47, m15_0, m15_1, m15_4, m15_5, m15_6, m15_9, m15_12, m15_13, m15_14, m15_15u, m15_16, m15_17u, m15_18, m15_19, m15_20, m15_23, m15_26, m15_27, m15_30, m15_33, m15_34, m15_37, m15_38, m15_39u, m15_39i, m15_39r, m15_41, m15_43, m15_46, m15_47, m15_50, m15_52, m15_53, m15_54, m15_57, m15_58, m15_59, m15_62, m15_63, m15_64, m15_67, m15_70, m15_73, m15_76, m15_77, m16_0, m16_1, m16_4, m17_0, m17_1, m17_4u, m17_6, m17_7, m17_8, m17_11, m17_12, m17_13, m17_16, m17_17, m17_19, m17_22, m17_23, m17_26, m17_28, m17_29, m17_32, m17_33, m17_34, m17_35, m17_36, m17_37, m17_38, m17_41, m17_43, m17_44, m17_47, m17_48, m17_49, m17_50, m17_51, m17_54, m17_56, m17_57, m17_60, m17_61, m17_62, m17_63, m17_64, m17_67, m17_69, m17_70, m17_71, m17_72, m17_74, m17_75u, m17_77, m17_79, m17_81, m17_82u, m17_84, m17_85u, m17_87, m17_89, m17_91, m17_94, m17_95, m17_98, m17_100, m17_102, m17_103, m17_104, m17_107, m17_109, m17_111, m17_112, m17_113, m17_114, m17_117, m17_120, m17_121i, m17_123, m17_124u, m17_126, m17_128, m17_131, m17_134, m17_136, m17_139, m17_140, m17_143, m17_145, m17_147, m17_148, m17_149, m17_150, m17_151, m17_152, m17_155, m17_156, m17_159, m17_161, m17_163, m17_164, m17_165, m17_166, m17_168, m17_169, m17_170, m17_173, m17_175, m17_176i, m17_178, m17_181, m17_184, m17_185, m17_188, m17_189, m17_191, m17_192, m17_193, m17_196, m17_198, m17_200, m17_201, m18_0, m18_1, m18_2, m18_3u, m18_5, m18_6, m18_7, m18_8u, m18_10, m18_11, m18_12, m18_13u, m18_15, m18_16, m18_17, m18_18u, m18_20, m18_22, m18_23, m18_24u, m18_26, m18_28, m18_29, m18_30u, m18_32, m18_35, m18_36, m18_37, m18_39, m18_42u, m18_44, m18_46, m18_48, m18_51, m18_54, m18_55, m18_56, m18_58, m18_60, m18_63, m18_66, m18_67, m18_68, m18_70, m18_72, m18_75, m18_78, m18_79, m18_80, m18_82, m18_84, m18_87, m18_90, m18_91, m18_92, m18_94, m18_96, m18_99, m18_102, m18_103, m18_104, m18_106, m18_108, m18_111, m18_114, m18_115, m18_116, m18_118, m18_121, m18_122, m18_125, m18_127, m18_130, m18_131, m18_134, m18_135, m18_136, m18_138, m18_140, m18_143, m18_145, m18_147, m18_150, m18_151, m18_154, m18_155u, m18_157, m18_159, m18_161, m18_164, m18_166, m18_168, m18_171, m18_172, m18_175, m18_176u, m18_178, m18_180, m18_182, m18_185, m18_187, m18_189, m18_192, m18_193, m18_196, m18_197u, m18_199, m18_201, m18_203, m18_204, m18_206, m18_207u, m18_209, m18_211, m18_212, m18_215, m18_216, m18_219, m18_221, m18_222, m18_225, m18_226, m18_229, m18_231, m18_232, m18_235, m18_236, m18_239, m18_240u, m18_242, m18_244, m18_247, m18_249, m18_252, m18_253, m18_256, m18_257, m18_260, m18_261, m18_262, m18_264, m18_267, m18_269, m18_272, m18_273, m18_274, m18_276, m18_279, m18_281, m18_284, m18_285, m18_286, m18_288, m18_290, m18_293, m18_295, m18_297, m18_300, m18_302, m18_304, m18_307, m18_308, m18_311, m18_312u, m18_314, m18_315, m18_317, m18_318, m18_320, m18_321u, m18_323, m18_324, m18_326, m18_327, m18_329, m18_330u, m18_332, m18_333, m18_335, m18_336, m18_338, m18_339u, m18_341, m18_342, m18_344, m18_346, m18_349, m18_350, m18_353, m18_354, m18_355, m18_357, m18_359, m18_362, m18_364, m18_366, m18_369, m18_370, m18_373, m18_374, m18_375u, m18_377, m18_378, m18_380, m18_381, m18_382, m18_384, m18_385, m18_386, m18_388, m18_389u, m18_391, m18_392, m18_394, m18_395, m18_396, m18_398, m18_399, m18_400, m18_402, m18_403u, m18_405, m18_407, m18_409, m18_412, m18_413, m18_416, m18_417u, m18_419, m18_421, m18_422, m18_425, m18_428, m18_429, m18_430, m18_432, m18_433, m18_436, m18_438, m18_441, m18_442, m18_443, m18_445, m18_446, m18_449, m18_451, m18_454, m18_455, m18_456, m18_458, m18_459, m18_462, m18_464, m18_467, m18_468, m18_469, m18_471, m18_472, m18_475, m18_476, m18_479, m18_480, m18_481, m18_483, m18_484, m18_487, m18_490, m18_491, m18_492, m18_494, m18_497, m18_499, m18_501, m18_502, m18_504, m18_505, m18_506, m18_507, m18_510, m18_511, m18_514, m18_515, nb0, nb1, ou_a, Option.toList_some, Option.toList_none, List.nil_append, List.cons_append, ou_same, ou_comm, setA_same, getA_set2, setA_len, inB_iff, A0g_0, A0g_1, A0g_2, A0g_3, A0g_4, A0g_5, A0g_6, A0g_7, A0g_8, A0g_9, A0g_10, A0l_0, A0l_1, A0l_2, A0l_3, A0l_4, A0l_5, A0l_6, A0l_7, A0l_8, A0l_9, A0l_10]
    refine ⟨?_, ?_⟩ <;> simp only [ou_a, setA_len, put_len, put_tot, pad_0, tot_nil, List.length_nil, List.length_cons, A0l_0, A0l_1, A0l_2, A0l_3, A0l_4, A0l_5, A0l_6, A0l_7, A0l_8, A0l_9, A0l_10] <;> simp [setA_len, put_len, put_tot, pad_0, tot_nil, List.length_nil, List.length_cons, A0l_0, A0l_1, A0l_2, A0l_3, A0l_4, A0l_5, A0l_6, A0l_7, A0l_8, A0l_9, A0l_10]
set_option maxRecDepth 1000000 in
set_option maxHeartbeats 20000000 in
theorem own_t1011 (i0 : Int32) (i1 : Int32) (i2 : Int32) (i3 : Int32) (i4 : Int32) (i5 : Int32) (e0 : i0 &&& 1 = 1) (e1 : i1 &&& 1 = 0) (e2 : i2 &&& 1 = 1) (e3 : i3 &&& 1 = 1) : W tables_1 dn 0 x code ret 0 (entry [.int i0, .int i1, .int i2, .int i3, .int i4, .int i5] maxLocals) [] [] (fun v H1 => v = some (.int 1) ∧ H1.length - ([] : AHeap).length ≤ 32 ∧ tot tables_1 H1 - tot tables_1 [] ≤ 4224) := by
  show M18 0 [.val (.int i0), .val (.int i1), .val (.int i2), .val (.int i3), .val (.int i4), .val (.int i5), .unset, .unset, .unset, .unset, .unset, .unset, .unset, .unset, .unset, .unset, .unset, .unset, .unset, .unset, .unset, .unset, .unset, .unset, .unset, .unset] [] [] _
  rw [m18_0, m18_1, m18_2, m18_3u, m18_5, m18_6, m18_7, m18_8u, m18_10, m18_11, m18_12, m18_13u, m18_15, m18_16, m18_17, m18_18u, m18_20, m18_22, m18_23, m18_24u, m18_26, m18_28, m18_29, m18_30u, m18_32, m18_35, m18_36, m18_37, m18_39, own_ctor0 rfl]
  rcases own_bit i4 with e4 | e4 <;> rcases own_bit i5 with e5 | e5 <;>
  · simp (maxSteps := 10000000) [e0, e1, e2, e3, e4, e5, m0_0, m0_1, m0_4, m0_5, m0_12, m0_13, m0_20, m0_21, m0_28, m0_29, m0_37, m0_38, m0_46, m0_47, m0_55, m0_56, m0_64, m0_65, m0_73, m0_74, m0_82, m0_83, m0_91, m0_92, m0_99, m0_100u, m0_101, m0_102, m0_103, m0_106, m0_107i, m0_108, m0_109, m0_111, m0_114, m0_116i, m0_117, m0_118u, m0_120, m0_122, m0_124, m0_127, m0_129i, m0_131, m0_133, m0_135, m0_138, m0_140i, m0_142, m0_143, m0_144, m0_147, m0_148, m0_150, m0_153, m0_154, m0_155, m0_158, m0_159, m0_160, m0_163, m0_164, m0_165, m0_168, m0_169, m0_172, m1_0, m1_1, m1_2, m1_5, m1_6, m1_7, m1_10, m1_11, m1_12, m1_15, m1_16, m1_17, m1_20, m1_21, m1_22, m1_25, m2_0, m2_1, m2_4, m2_5, m2_8, m2_11, m2_12, m2_13, m2_16, m2_17, m2_18, m2_19, m2_20, m2_23, m2_24, m2_25, m2_26, m2_27, m2_30, m2_31, m2_32, m2_33, m2_34, m2_37, m2_38, m2_39, m2_40, m2_41, m2_44, m2_45, m2_46, m2_47, m2_48, m2_50, m2_51u, m2_52, m2_53u, m2_54, m2_55, m2_57, m2_60, m2_61, m2_64, m2_65, m2_66, m2_67, m2_68, m2_69, m2_72, m2_75, m3_0, m3_1, m3_4, m3_5, m3_6, m3_9, m3_12, m3_13, m3_14, m3_15, m3_18, m3_19, m3_22, m3_25, m3_26, m3_27, m3_28, m3_31, m3_32, m3_35, m3_36, m3_37, m3_38, m3_39, m3_42, m3_43, m3_44, m3_47, m3_48, m3_49, m3_52, m3_53, m4_0, m4_1, m4_4, m4_5, m4_6, m4_9, m4_12, m4_13, m4_16, m4_17, m4_19, m4_22, m4_23, m4_24, m4_27u, m4_28, m4_29, m4_30, m4_33, m4_34, m4_35, m4_38, m4_39, m4_40, m4_43, m4_44, m4_47, m4_48, m4_49, m4_52, m4_53, m4_56, m4_57, m4_58, m4_59, m4_60, m4_61, m4_64, m4_65, m4_66, m4_69, m4_70, m4_71, m4_72, m4_73, m4_74, m4_75, m4_76, m4_79, m4_80, m4_81, m4_84u, m4_85, m4_86, m4_89, m4_90, m4_93, m4_94, m4_95, m4_96, m4_99, m4_100, m4_103, m4_104, m4_106, m4_107, m4_108, m4_109, m4_110u, m4_112, m4_113, m4_116, m4_117, m4_118, m4_119, m4_120, m4_121, m4_124, m4_126, m4_127, m4_130, m4_131, m4_134, m4_135, m4_137, m4_138, m4_141, m4_142, m4_143, m4_144, m4_146, m4_147, m4_150, m4_151, m4_152, m4_155, m4_156, m4_157, m4_160, m4_161, m4_164, m4_165, m4_166, m4_167, m4_170, m4_171, m4_174, m4_175, m4_176, m4_177, m4_178, m4_179, m4_182, m4_183, m4_184, m4_187, m5_0, m5_1u, m5_3, m5_4u, m5_6, m5_8, m5_11, m5_14, m5_16, m5_19, m5_20, m5_23, m5_25, m5_27, m5_28, m5_29, m5_30, m5_31, m5_34, m5_35, m5_38, m5_40, m5_42, m5_43, m5_44, m5_45, m5_46, m5_47, m5_48, m5_51, m5_53, m5_54i, m5_56, m5_59, m5_62, m5_64, m6_0, m6_1, m6_4, m6_5, m6_6, m6_9, m6_12, m6_13, m6_14, m6_15, m6_18, m6_20, m6_23, m6_24, m6_25, m6_26, m6_29, m6_30, m6_33, m6_34, m6_35, m6_36, m6_37, m6_40, m6_41, m6_42, m6_45, m6_46, m7_0, m7_1, m7_4, m8_0, m8_1, m8_4, m9_0, m9_1, m9_4, m9_7, m9_8, m9_9, m9_10, m9_13, m9_14, m9_17, m9_20, m9_21, m9_22, m9_23, m9_26, m9_27, m9_30, m9_31, m9_34, m9_35, m10_0, m10_1u, m10_2, m10_3u, m10_4, m10_5, m10_6, m10_9, m10_12, m10_13, m10_15, m10_18, m10_19, m10_22, m10_23, m10_24u, m10_24i, m10_24r, m10_25, m10_26, m10_29, m10_30, m10_32, m10_35, m10_36, m10_37, m10_38, m10_41, m10_42, m10_44, m10_45, m10_46, m10_47, m10_48u, m10_48i, m10_48r, m10_50, m10_52, m10_55, m10_56, m10_57, m10_59i, m10_60, m10_63, m10_66, m10_67, m11_0, m11_1, m11_4, m11_7, m11_8, m11_11, m11_12, m11_13, m11_14, m11_15, m11_18, m11_19, m11_22, m11_25, m11_26, m11_27, m11_28, m11_31u, m11_32, m11_33, m11_34, m11_37, m11_38, m11_39, m11_40, m11_43, m11_44, m11_47, m11_48, m11_49, m12_0, m12_1, m12_4, m12_7, m12_8, m12_9, m12_12, m12_13u, m12_14, m12_15, m12_16, m12_19, m12_22, m12_23, m12_26, m12_29, m12_30, m12_33, m12_34, m12_35, m12_38, m12_39, m12_42, m12_43, m12_44, m12_47, m12_48, m12_51, m12_52, m12_53, m12_56, m12_59, m12_60, m12_63, m12_64, m12_65i, m12_66, m12_67, m12_68, m12_71, m12_72, m12_75, m12_76, m12_77u, m12_77i, m12_77r, m12_78, m12_79, m12_82, m12_83, m12_84u, m12_84i, m12_84r, m12_85, m12_86, m12_89, m12_90, m12_93, m12_94, m12_95, m12_96, m12_97, m12_100, m12_101, m12_102, m12_103, m12_104, m12_107, m12_110, m12_111, m12_112, m12_115, m13_0, m13_1u, m13_2, m13_3, m13_5, m13_8, m13_9, m13_12, m13_13, m13_14, m13_15, m13_18, m13_21, m13_22i, m13_23, m13_24, m13_25, m13_28, m13_31, m13_32, m13_35, m13_38, m13_39, m13_42, m13_43, m13_46, m13_47, m13_48, m13_49, m13_50, m13_51, m13_52, m13_53, m13_56, m13_59, m13_60i, m13_61, m13_62, m13_64, m13_67, m13_68, m13_71, m13_72, m13_73, m13_74, m13_75, m13_78, m13_79, m13_80, m13_81, m13_82, m13_83, m13_84, m13_87, m13_90, m13_91, m13_94, m13_95, m13_96i, m13_97, m13_98, m13_101, m13_102, m13_105, m13_106, m13_107u, m13_107i, m13_107r, m13_108, m13_109, m13_112, m13_113, m13_114, m13_115, m13_116, m13_117, m13_118, m13_119, m13_122, m13_123, m13_124u, m13_124i, m13_124r, m13_125, m13_126, m13_129, m13_130, m13_133, m13_136, m13_137, m13_140, m13_141, m13_142, m13_143, m13_146, m13_149, m14_0, m14_1, m14_4, m14_7, m14_8, m14_9, m14_10, m14_13, m14_14, m14_17, m14_20, m14_21, m14_22, m14_23, m14_26u, m14_27, m14_28, m14_29, m14_32, m14_33, m14_34, m14_35, m14_38, m14_39, m14_40, m14_41, m14_44, m14_45, m14_46, m14_47, m15_0, m15_1, m15_4, m15_5, m15_6, m15_9, m15_12, m15_13, m15_14, m15_15u, m15_16, m15_17u, m15_18, m15_19, m15_20, m15_23, m15_26, m15_27, m15_30, m15_33, m15_34, m15_37, m15_38, m15_39u, m15_39i, m15_39r, m15_41, m15_43, m15_46, m15_47, m15_50, m15_52, m15_53, m15_54, m15_57, m15_58, m15_59, m15_62, m15_63, m15_64, m15_67, m15_70, m15_73, m15_76, m15_77, m16_0, m16_1, m16_4, m17_0, m17_1, m17_4u, m17_6, m17_7, m17_8, m17_11, m17_12, m17_13, m17_16, m17_17, m17_19, m17_22, m17_23, m17_26, m17_28, m17_29, m17_32, m17_33, m17_34, m17_35, m17_36, m17_37, m17_38, m17_41, m17_43, m17_44, m17_47, m17_48, m17_49, m17_50, m17_51, m17_54, m17_56, m17_57, m17_60, m17_61, m17_62, m17_63, m17_64, m17_67, m17_69, m17_70, m17_71, m17_72, m17_74, m17_75u, m17_77, m17_79, m17_81, m17_82u, m17_84, m17_85u, m17_87, m17_89, m17_91, m17_94, m17_95, m17_98, m17_100, m17_102, m17_103, m17_104, m17_107, m17_109, m17_111, m17_112, m17_113, m17_114, m17_117, m17_120, m17_121i, m17_123, m17_124u, m17_126, m17_128, m17_131, m17_134, m17_136, m17_139, m17_140, m17_143, m17_145, m17_147, m17_148, m17_149, m17_150, m17_151, m17_152, m17_155, m17_156, m17_159, m17_161, m17_163, m17_164, m17_165, m17_166, m17_168, m17_169, m17_170, m17_173, m17_175, m17_176i, m17_178, m17_181, m17_184, m17_185, m17_188, m17_189, m17_191, m17_192, m17_193, m17_196, m17_198, m17_200, m17_201, m18_0, m18_1, m18_2, m18_3u, m18_5, m18_6, m18_7, m18_8u, m18_10, m18_11, m18_12, m18_13u, m18_15, m18_16, m18_17, m18_18u, m18_20, m18_22, m18_23, m18_24u, m18_26, m18_28, m18_29, m18_30u, m18_32, m18_35, m18_36, m18_37, m18_39, m18_42u, m18_44, m18_46, m18_48, m18_51, m18_54, m18_55, m18_56, m18_58, m18_60, m18_63, m18_66, m18_67, m18_68, m18_70, m18_72, m18_75, m18_78, m18_79, m18_80, m18_82, m18_84, m18_87, m18_90, m18_91, m18_92, m18_94, m18_96, m18_99, m18_102, m18_103, m18_104, m18_106, m18_108, m18_111, m18_114, m18_115, m18_116, m18_118, m18_121, m18_122, m18_125, m18_127, m18_130, m18_131, m18_134, m18_135, m18_136, m18_138, m18_140, m18_143, m18_145, m18_147, m18_150, m18_151, m18_154, m18_155u, m18_157, m18_159, m18_161, m18_164, m18_166, m18_168, m18_171, m18_172, m18_175, m18_176u, m18_178, m18_180, m18_182, m18_185, m18_187, m18_189, m18_192, m18_193, m18_196, m18_197u, m18_199, m18_201, m18_203, m18_204, m18_206, m18_207u, m18_209, m18_211, m18_212, m18_215, m18_216, m18_219, m18_221, m18_222, m18_225, m18_226, m18_229, m18_231, m18_232, m18_235, m18_236, m18_239, m18_240u, m18_242, m18_244, m18_247, m18_249, m18_252, m18_253, m18_256, m18_257, m18_260, m18_261, m18_262, m18_264, m18_267, m18_269, m18_272, m18_273, m18_274, m18_276, m18_279, m18_281, m18_284, m18_285, m18_286, m18_288, m18_290, m18_293, m18_295, m18_297, m18_300, m18_302, m18_304, m18_307, m18_308, m18_311, m18_312u, m18_314, m18_315, m18_317, m18_318, m18_320, m18_321u, m18_323, m18_324, m18_326, m18_327, m18_329, m18_330u, m18_332, m18_333, m18_335, m18_336, m18_338, m18_339u, m18_341, m18_342, m18_344, m18_346, m18_349, m18_350, m18_353, m18_354, m18_355, m18_357, m18_359, m18_362, m18_364, m18_366, m18_369, m18_370, m18_373, m18_374, m18_375u, m18_377, m18_378, m18_380, m18_381, m18_382, m18_384, m18_385, m18_386, m18_388, m18_389u, m18_391, m18_392, m18_394, m18_395, m18_396, m18_398, m18_399, m18_400, m18_402, m18_403u, m18_405, m18_407, m18_409, m18_412, m18_413, m18_416, m18_417u, m18_419, m18_421, m18_422, m18_425, m18_428, m18_429, m18_430, m18_432, m18_433, m18_436, m18_438, m18_441, m18_442, m18_443, m18_445, m18_446, m18_449, m18_451, m18_454, m18_455, m18_456, m18_458, m18_459, m18_462, m18_464, m18_467, m18_468, m18_469, m18_471, m18_472, m18_475, m18_476, m18_479, m18_480, m18_481, m18_483, m18_484, m18_487, m18_490, m18_491, m18_492, m18_494, m18_497, m18_499, m18_501, m18_502, m18_504, m18_505, m18_506, m18_507, m18_510, m18_511, m18_514, m18_515, nb0, nb1, ou_a, Option.toList_some, Option.toList_none, List.nil_append, List.cons_append, ou_same, ou_comm, setA_same, getA_set2, setA_len, inB_iff, A0g_0, A0g_1, A0g_2, A0g_3, A0g_4, A0g_5, A0g_6, A0g_7, A0g_8, A0g_9, A0g_10, A0l_0, A0l_1, A0l_2, A0l_3, A0l_4, A0l_5, A0l_6, A0l_7, A0l_8, A0l_9, A0l_10]
    refine ⟨?_, ?_⟩ <;> simp only [ou_a, setA_len, put_len, put_tot, pad_0, tot_nil, List.length_nil, List.length_cons, A0l_0, A0l_1, A0l_2, A0l_3, A0l_4, A0l_5, A0l_6, A0l_7, A0l_8, A0l_9, A0l_10] <;> simp [setA_len, put_len, put_tot, pad_0, tot_nil, List.length_nil, List.length_cons, A0l_0, A0l_1, A0l_2, A0l_3, A0l_4, A0l_5, A0l_6, A0l_7, A0l_8, A0l_9, A0l_10]
set_option maxRecDepth 1000000 in
set_option maxHeartbeats 20000000 in
theorem own_t0111 (i0 : Int32) (i1 : Int32) (i2 : Int32) (i3 : Int32) (i4 : Int32) (i5 : Int32) (e0 : i0 &&& 1 = 0) (e1 : i1 &&& 1 = 1) (e2 : i2 &&& 1 = 1) (e3 : i3 &&& 1 = 1) : W tables_1 dn 0 x code ret 0 (entry [.int i0, .int i1, .int i2, .int i3, .int i4, .int i5] maxLocals) [] [] (fun v H1 => v = some (.int 1) ∧ H1.length - ([] : AHeap).length ≤ 32 ∧ tot tables_1 H1 - tot tables_1 [] ≤ 4224) := by
  show M18 0 [.val (.int i0), .val (.int i1), .val (.int i2), .val (.int i3), .val (.int i4), .val (.int i5), .unset, .unset, .unset, .unset, .unset, .unset, .unset, .unset, .unset, .unset, .unset, .unset, .unset, .unset, .unset, .unset, .unset, .unset, .unset, .unset] [] [] _
  rw [m18_0, m18_1, m18_2, m18_3u, m18_5, m18_6, m18_7, m18_8u, m18_10, m18_11, m18_12, m18_13u, m18_15, m18_16, m18_17, m18_18u, m18_20, m18_22, m18_23, m18_24u, m18_26, m18_28, m18_29, m18_30u, m18_32, m18_35, m18_36, m18_37, m18_39, own_ctor0 rfl]
  rcases own_bit i4 with e4 | e4 <;> rcases own_bit i5 with e5 | e5 <;>
  · simp (maxSteps := 10000000) [e0, e1, e2, e3, e4, e5, m0_0, m0_1, m0_4, m0_5, m0_12, m0_13, m0_20, m0_21, m0_28, m0_29, m0_37, m0_38, m0_46, m0_47, m0_55, m0_56, m0_64, m0_65, m0_73, m0_74, m0_82, m0_83, m0_91, m0_92, m0_99, m0_100u, m0_101, m0_102, m0_103, m0_106, m0_107i, m0_108, m0_109, m0_111, m0_114, m0_116i, m0_117, m0_118u, m0_120, m0_122, m0_124, m0_127, m0_129i, m0_131, m0_133, m0_135, m0_138, m0_140i, m0_142, m0_143, m0_144, m0_147, m0_148, m0_150, m0_153, m0_154, m0_155, m0_158, m0_159, m0_160, m0_163, m0_164, m0_165, m0_168, m0_169, m0_172, m1_0, m1_1, m1_2, m1_5, m1_6, m1_7, m1_10, m1_11, m1_12, m1_15, m1_16, m1_17, m1_20, m1_21, m1_22, m1_25, m2_0, m2_1, m2_4, m2_5, m2_8, m2_11, m2_12, m2_13, m2_16, m2_17, m2_18, m2_19, m2_20, m2_23, m2_24, m2_25, m2_26, m2_27, m2_30, m2_31, m2_32, m2_33, m2_34, m2_37, m2_38, m2_39, m2_40, m2_41, m2_44, m2_45, m2_46, m2_47, m2_48, m2_50, m2_51u, m2_52, m2_53u, m2_54, m2_55, m2_57, m2_60, m2_61, m2_64, m2_65, m2_66, m2_67, m2_68, m2_69, m2_72, m2_75, m3_0, m3_1, m3_4, m3_5, m3_6, m3_9, m3_12, m3_13, m3_14, m3_15, m3_18, m3_19, m3_22, m3_25, m3_26, m3_27, m3_28, m3_31, m3_32, m3_35, m3_36, m3_37, m3_38, m3_39, m3_42, m3_43, m3_44, m3_47, m3_48, m3_49, m3_52, m3_53, m4_0, m4_1, m4_4, m4_5, m4_6, m4_9, m4_12, m4_13, m4_16, m4_17, m4_19, m4_22, m4_23, m4_24, m4_27u, m4_28, m4_29, m4_30, m4_33, m4_34, m4_35, m4_38, m4_39, m4_40, m4_43, m4_44, m4_47, m4_48, m4_49, m4_52, m4_53, m4_56, m4_57, m4_58, m4_59, m4_60, m4_61, m4_64, m4_65, m4_66, m4_69, m4_70, m4_71, m4_72, m4_73, m4_74, m4_75, m4_76, m4_79, m4_80, m4_81, m4_84u, m4_85, m4_86, m4_89, m4_90, m4_93, m4_94, m4_95, m4_96, m4_99, m4_100, m4_103, m4_104, m4_106, m4_107, m4_108, m4_109, m4_110u, m4_112, m4_113, m4_116, m4_117, m4_118, m4_119, m4_120, m4_121, m4_124, m4_126, m4_127, m4_130, m4_131, m4_134, m4_135, m4_137, m4_138, m4_141, m4_142, m4_143, m4_144, m4_146, m4_147, m4_150, m4_151, m4_152, m4_155, m4_156, m4_157, m4_160, m4_161, m4_164, m4_165, m4_166, m4_167, m4_170, m4_171, m4_174, m4_175, m4_176, m4_177, m4_178, m4_179, m4_182, m4_183, m4_184, m4_187, m5_0, m5_1u, m5_3, m5_4u, m5_6, m5_8, m5_11, m5_14, m5_16, m5_19, m5_20, m5_23, m5_25, m5_27, m5_28, m5_29, m5_30, m5_31, m5_34, m5_35, m5_38, m5_40, m5_42, m5_43, m5_44, m5_45, m5_46, m5_47, m5_48, m5_51, m5_53, m5_54i, m5_56, m5_59, m5_62, m5_64, m6_0, m6_1, m6_4, m6_5, m6_6, m6_9, m6_12, m6_13, m6_14, m6_15, m6_18, m6_20, m6_23, m6_24, m6_25, m6_26, m6_29, m6_30, m6_33, m6_34, m6_35, m6_36, m6_37, m6_40, m6_41, m6_42, m6_45, m6_46, m7_0, m7_1, m7_4, m8_0, m8_1, m8_4, m9_0, m9_1, m9_4, m9_7, m9_8, m9_9, m9_10, m9_13, m9_14, m9_17, m9_20, m9_21, m9_22, m9_23, m9_26, m9_27, m9_30, m9_31, m9_34, m9_35, m10_0, m10_1u, m10_2, m10_3u, m10_4, m10_5, m10_6, m10_9, m10_12, m10_13, m10_15, m10_18, m10_19, m10_22, m10_23, m10_24u, m10_24i, m10_24r, m10_25, m10_26, m10_29, m10_30, m10_32, m10_35, m10_36, m10_37, m10_38, m10_41, m10_42, m10_44, m10_45, m10_46, m10_47, m10_48u, m10_48i, m10_48r, m10_50, m10_52, m10_55, m10_56, m10_57, m10_59i, m10_60, m10_63, m10_66, m10_67, m11_0, m11_1, m11_4, m11_7, m11_8, m11_11, m11_12, m11_13, m11_14, m11_15, m11_18, m11_19, m11_22, m11_25, m11_26, m11_27, m11_28, m11_31u, m11_32, m11_33, m11_34, m11_37, m11_38, m11_39, m11_40, m11_43, m11_44, m11_47, m11_48, m11_49, m12_0, m12_1, m12_4, m12_7, m12_8, m12_9, m12_12, m12_13u, m12_14, m12_15, m12_16, m12_19, m12_22, m12_23, m12_26, m12_29, m12_30, m12_33, m12_34, m12_35, m12_38, m12_39, m12_42, m12_43, m12_44, m12_47, m12_48, m12_51, m12_52, m12_53, m12_56, m12_59, m12_60, m12_63, m12_64, m12_65i, m12_66, m12_67, m12_68, m12_71, m12_72, m12_75, m12_76, m12_77u, m12_77i, m12_77r, m12_78, m12_79, m12_82, m12_83, m12_84u, m12_84i, m12_84r, m12_85, m12_86, m12_89, m12_90, m12_93, m12_94, m12_95, m12_96, m12_97, m12_100, m12_101, m12_102, m12_103, m12_104, m12_107, m12_110, m12_111, m12_112, m12_115, m13_0, m13_1u, m13_2, m13_3, m13_5, m13_8, m13_9, m13_12, m13_13, m13_14, m13_15, m13_18, m13_21, m13_22i, m13_23, m13_24, m13_25, m13_28, m13_31, m13_32, m13_35, m13_38, m13_39, m13_42, m13_43, m13_46, m13_47, m13_48, m13_49, m13_50, m13_51, m13_52, m13_53, m13_56, m13_59, m13_60i, m13_61, m13_62, m13_64, m13_67, m13_68, m13_71, m13_72, m13_73, m13_74, m13_75, m13_78, m13_79, m13_80, m13_81, m13_82, m13_83, m13_84, m13_87, m13_90, m13_91, m13_94, m13_95, m13_96i, m13_97, m13_98, m13_101, m13_102, m13_105, m13_106, m13_107u, m13_107i, m13_107r, m13_108, m13_109, m13_112, m13_113, m13_114, m13_115, m13_116, m13_117, m13_118, m13_119, m13_122, m13_123, m13_124u, m13_124i, m13_124r, m13_125, m13_126, m13_129, m13_130, m13_133, m13_136, m13_137, m13_140, m13_141, m13_142, m13_143, m13_146, m13_149, m14_0, m14_1, m14_4, m14_7, m14_8, m14_9, m14_10, m14_13, m14_14, m14_17, m14_20, m14_21, m14_22, m14_23, m14_26u, m14_27, m14_28, m14_29, m14_32, m14_33, m14_34, m14_35, m14_38, m14_39, m14_40, m14_41, m14_44, m14_45, m14_46, m14_47, m15_0, m15_1, m15_4, m15_5, m15_6, m15_9, m15_12, m15_13, m15_14, m15_15u, m15_16, m15_17u, m15_18, m15_19, m15_20, m15_23, m15_26, m15_27, m15_30, m15_33, m15_34, m15_37, m15_38, m15_39u, m15_39i, m15_39r, m15_41, m15_43, m15_46, m15_47, m15_50, m15_52, m15_53, m15_54, m15_57, m15_58, m15_59, m15_62, m15_63, m15_64, m15_67, m15_70, m15_73, m15_76, m15_77, m16_0, m16_1, m16_4, m17_0, m17_1, m17_4u, m17_6, m17_7, m17_8, m17_11, m17_12, m17_13, m17_16, m17_17, m17_19, m17_22, m17_23, m17_26, m17_28, m17_29, m17_32, m17_33, m17_34, m17_35, m17_36, m17_37, m17_38, m17_41, m17_43, m17_44, m17_47, m17_48, m17_49, m17_50, m17_51, m17_54, m17_56, m17_57, m17_60, m17_61, m17_62, m17_63, m17_64, m17_67, m17_69, m17_70, m17_71, m17_72, m17_74, m17_75u, m17_77, m17_79, m17_81, m17_82u, m17_84, m17_85u, m17_87, m17_89, m17_91, m17_94, m17_95, m17_98, m17_100, m17_102, m17_103, m17_104, m17_107, m17_109, m17_111, m17_112, m17_113, m17_114, m17_117, m17_120, m17_121i, m17_123, m17_124u, m17_126, m17_128, m17_131, m17_134, m17_136, m17_139, m17_140, m17_143, m17_145, m17_147, m17_148, m17_149, m17_150, m17_151, m17_152, m17_155, m17_156, m17_159, m17_161, m17_163, m17_164, m17_165, m17_166, m17_168, m17_169, m17_170, m17_173, m17_175, m17_176i, m17_178, m17_181, m17_184, m17_185, m17_188, m17_189, m17_191, m17_192, m17_193, m17_196, m17_198, m17_200, m17_201, m18_0, m18_1, m18_2, m18_3u, m18_5, m18_6, m18_7, m18_8u, m18_10, m18_11, m18_12, m18_13u, m18_15, m18_16, m18_17, m18_18u, m18_20, m18_22, m18_23, m18_24u, m18_26, m18_28, m18_29, m18_30u, m18_32, m18_35, m18_36, m18_37, m18_39, m18_42u, m18_44, m18_46, m18_48, m18_51, m18_54, m18_55, m18_56, m18_58, m18_60, m18_63, m18_66, m18_67, m18_68, m18_70, m18_72, m18_75, m18_78, m18_79, m18_80, m18_82, m18_84, m18_87, m18_90, m18_91, m18_92, m18_94, m18_96, m18_99, m18_102, m18_103, m18_104, m18_106, m18_108, m18_111, m18_114, m18_115, m18_116, m18_118, m18_121, m18_122, m18_125, m18_127, m18_130, m18_131, m18_134, m18_135, m18_136, m18_138, m18_140, m18_143, m18_145, m18_147, m18_150, m18_151, m18_154, m18_155u, m18_157, m18_159, m18_161, m18_164, m18_166, m18_168, m18_171, m18_172, m18_175, m18_176u, m18_178, m18_180, m18_182, m18_185, m18_187, m18_189, m18_192, m18_193, m18_196, m18_197u, m18_199, m18_201, m18_203, m18_204, m18_206, m18_207u, m18_209, m18_211, m18_212, m18_215, m18_216, m18_219, m18_221, m18_222, m18_225, m18_226, m18_229, m18_231, m18_232, m18_235, m18_236, m18_239, m18_240u, m18_242, m18_244, m18_247, m18_249, m18_252, m18_253, m18_256, m18_257, m18_260, m18_261, m18_262, m18_264, m18_267, m18_269, m18_272, m18_273, m18_274, m18_276, m18_279, m18_281, m18_284, m18_285, m18_286, m18_288, m18_290, m18_293, m18_295, m18_297, m18_300, m18_302, m18_304, m18_307, m18_308, m18_311, m18_312u, m18_314, m18_315, m18_317, m18_318, m18_320, m18_321u, m18_323, m18_324, m18_326, m18_327, m18_329, m18_330u, m18_332, m18_333, m18_335, m18_336, m18_338, m18_339u, m18_341, m18_342, m18_344, m18_346, m18_349, m18_350, m18_353, m18_354, m18_355, m18_357, m18_359, m18_362, m18_364, m18_366, m18_369, m18_370, m18_373, m18_374, m18_375u, m18_377, m18_378, m18_380, m18_381, m18_382, m18_384, m18_385, m18_386, m18_388, m18_389u, m18_391, m18_392, m18_394, m18_395, m18_396, m18_398, m18_399, m18_400, m18_402, m18_403u, m18_405, m18_407, m18_409, m18_412, m18_413, m18_416, m18_417u, m18_419, m18_421, m18_422, m18_425, m18_428, m18_429, m18_430, m18_432, m18_433, m18_436, m18_438, m18_441, m18_442, m18_443, m18_445, m18_446, m18_449, m18_451, m18_454, m18_455, m18_456, m18_458, m18_459, m18_462, m18_464, m18_467, m18_468, m18_469, m18_471, m18_472, m18_475, m18_476, m18_479, m18_480, m18_481, m18_483, m18_484, m18_487, m18_490, m18_491, m18_492, m18_494, m18_497, m18_499, m18_501, m18_502, m18_504, m18_505, m18_506, m18_507, m18_510, m18_511, m18_514, m18_515, nb0, nb1, ou_a, Option.toList_some, Option.toList_none, List.nil_append, List.cons_append, ou_same, ou_comm, setA_same, getA_set2, setA_len, inB_iff, A0g_0, A0g_1, A0g_2, A0g_3, A0g_4, A0g_5, A0g_6, A0g_7, A0g_8, A0g_9, A0g_10, A0l_0, A0l_1, A0l_2, A0l_3, A0l_4, A0l_5, A0l_6, A0l_7, A0l_8, A0l_9, A0l_10]
    refine ⟨?_, ?_⟩ <;> simp only [ou_a, setA_len, put_len, put_tot, pad_0, tot_nil, List.length_nil, List.length_cons, A0l_0, A0l_1, A0l_2, A0l_3, A0l_4, A0l_5, A0l_6, A0l_7, A0l_8, A0l_9, A0l_10] <;> simp [setA_len, put_len, put_tot, pad_0, tot_nil, List.length_nil, List.length_cons, A0l_0, A0l_1, A0l_2, A0l_3, A0l_4, A0l_5, A0l_6, A0l_7, A0l_8, A0l_9, A0l_10]
set_option maxRecDepth 1000000 in
set_option maxHeartbeats 20000000 in
theorem own_t1111 (i0 : Int32) (i1 : Int32) (i2 : Int32) (i3 : Int32) (i4 : Int32) (i5 : Int32) (e0 : i0 &&& 1 = 1) (e1 : i1 &&& 1 = 1) (e2 : i2 &&& 1 = 1) (e3 : i3 &&& 1 = 1) : W tables_1 dn 0 x code ret 0 (entry [.int i0, .int i1, .int i2, .int i3, .int i4, .int i5] maxLocals) [] [] (fun v H1 => v = some (.int 1) ∧ H1.length - ([] : AHeap).length ≤ 32 ∧ tot tables_1 H1 - tot tables_1 [] ≤ 4224) := by
  show M18 0 [.val (.int i0), .val (.int i1), .val (.int i2), .val (.int i3), .val (.int i4), .val (.int i5), .unset, .unset, .unset, .unset, .unset, .unset, .unset, .unset, .unset, .unset, .unset, .unset, .unset, .unset, .unset, .unset, .unset, .unset, .unset, .unset] [] [] _
  rw [m18_0, m18_1, m18_2, m18_3u, m18_5, m18_6, m18_7, m18_8u, m18_10, m18_11, m18_12, m18_13u, m18_15, m18_16, m18_17, m18_18u, m18_20, m18_22, m18_23, m18_24u, m18_26, m18_28, m18_29, m18_30u, m18_32, m18_35, m18_36, m18_37, m18_39, own_ctor0 rfl]
  rcases own_bit i4 with e4 | e4 <;> rcases own_bit i5 with e5 | e5 <;>
  · simp (maxSteps := 10000000) [e0, e1, e2, e3, e4, e5, m0_0, m0_1, m0_4, m0_5, m0_12, m0_13, m0_20, m0_21, m0_28, m0_29, m0_37, m0_38, m0_46, m0_47, m0_55, m0_56, m0_64, m0_65, m0_73, m0_74, m0_82, m0_83, m0_91, m0_92, m0_99, m0_100u, m0_101, m0_102, m0_103, m0_106, m0_107i, m0_108, m0_109, m0_111, m0_114, m0_116i, m0_117, m0_118u, m0_120, m0_122, m0_124, m0_127, m0_129i, m0_131, m0_133, m0_135, m0_138, m0_140i, m0_142, m0_143, m0_144, m0_147, m0_148, m0_150, m0_153, m0_154, m0_155, m0_158, m0_159, m0_160, m0_163, m0_164, m0_165, m0_168, m0_169, m0_172, m1_0, m1_1, m1_2, m1_5, m1_6, m1_7, m1_10, m1_11, m1_12, m1_15, m1_16, m1_17, m1_20, m1_21, m1_22, m1_25, m2_0, m2_1, m2_4, m2_5, m2_8, m2_11, m2_12, m2_13, m2_16, m2_17, m2_18, m2_19, m2_20, m2_23, m2_24, m2_25, m2_26, m2_27, m2_30, m2_31, m2_32, m2_33, m2_34, m2_37, m2_38, m2_39, m2_40, m2_41, m2_44, m2_45, m2_46, m2_47, m2_48, m2_50, m2_51u, m2_52, m2_53u, m2_54, m2_55, m2_57, m2_60, m2_61, m2_64, m2_65, m2_66, m2_67, m2_68, m2_69, m2_72, m2_75, m3_0, m3_1, m3_4, m3_5, m3_6, m3_9, m3_12, m3_13, m3_14, m3_15, m3_18, m3_19, m3_22, m3_25, m3_26, m3_27, m3_28, m3_31, m3_32, m3_35, m3_36, m3_37, m3_38, m3_39, m3_42, m3_43, m3_44, m3_47, m3_48, m3_49, m3_52, m3_53, m4_0, m4_1, m4_4, m4_5, m4_6, m4_9, m4_12, m4_13, m4_16, m4_17, m4_19, m4_22, m4_23, m4_24, m4_27u, m4_28, m4_29, m4_30, m4_33, m4_34, m4_35, m4_38, m4_39, m4_40, m4_43, m4_44, m4_47, m4_48, m4_49, m4_52, m4_53, m4_56, m4_57, m4_58, m4_59, m4_60, m4_61, m4_64, m4_65, m4_66, m4_69, m4_70, m4_71, m4_72, m4_73, m4_74, m4_75, m4_76, m4_79, m4_80, m4_81, m4_84u, m4_85, m4_86, m4_89, m4_90, m4_93, m4_94, m4_95, m4_96, m4_99, m4_100, m4_103, m4_104, m4_106, m4_107, m4_108, m4_109, m4_110u, m4_112, m4_113, m4_116, m4_117, m4_118, m4_119, m4_120, m4_121, m4_124, m4_126, m4_127, m4_130, m4_131, m4_134, m4_135, m4_137, m4_138, m4_141, m4_142, m4_143, m4_144, m4_146, m4_147, m4_150, m4_151, m4_152, m4_155, m4_156, m4_157, m4_160, m4_161, m4_164, m4_165, m4_166, m4_167, m4_170, m4_171, m4_174, m4_175, m4_176, m4_177, m4_178, m4_179, m4_182, m4_183, m4_184, m4_187, m5_0, m5_1u, m5_3, m5_4u, m5_6, m5_8, m5_11, m5_14, m5_16, m5_19, m5_20, m5_23, m5_25, m5_27, m5_28, m5_29, m5_30, m5_31, m5_34, m5_35, m5_38, m5_40, m5_42, m5_43, m5_44, m5_45, m5_46, m5_47, m5_48, m5_51, m5_53, m5_54i, m5_56, m5_59, m5_62, m5_64, m6_0, m6_1, m6_4, m6_5, m6_6, m6_9, m6_12, m6_13, m6_14, m6_15, m6_18, m6_20, m6_23, m6_24, m6_25, m6_26, m6_29, m6_30, m6_33, m6_34, m6_35, m6_36, m6_37, m6_40, m6_41, m6_42, m6_45, m6_46, m7_0, m7_1, m7_4, m8_0, m8_1, m8_4, m9_0, m9_1, m9_4, m9_7, m9_8, m9_9, m9_10, m9_13, m9_14, m9_17, m9_20, m9_21, m9_22, m9_23, m9_26, m9_27, m9_30, m9_31, m9_34, m9_35, m10_0, m10_1u, m10_2, m10_3u, m10_4, m10_5, m10_6, m10_9, m10_12, m10_13, m10_15, m10_18, m10_19, m10_22, m10_23, m10_24u, m10_24i, m10_24r, m10_25, m10_26, m10_29, m10_30, m10_32, m10_35, m10_36, m10_37, m10_38, m10_41, m10_42, m10_44, m10_45, m10_46, m10_47, m10_48u, m10_48i, m10_48r, m10_50, m10_52, m10_55, m10_56, m10_57, m10_59i, m10_60, m10_63, m10_66, m10_67, m11_0, m11_1, m11_4, m11_7, m11_8, m11_11, m11_12, m11_13, m11_14, m11_15, m11_18, m11_19, m11_22, m11_25, m11_26, m11_27, m11_28, m11_31u, m11_32, m11_33, m11_34, m11_37, m11_38, m11_39, m11_40, m11_43, m11_44, m11_47, m11_48, m11_49, m12_0, m12_1, m12_4, m12_7, m12_8, m12_9, m12_12, m12_13u, m12_14, m12_15, m12_16, m12_19, m12_22, m12_23, m12_26, m12_29, m12_30, m12_33, m12_34, m12_35, m12_38, m12_39, m12_42, m12_43, m12_44, m12_47, m12_48, m12_51, m12_52, m12_53, m12_56, m12_59, m12_60, m12_63, m12_64, m12_65i, m12_66, m12_67, m12_68, m12_71, m12_72, m12_75, m12_76, m12_77u, m12_77i, m12_77r, m12_78, m12_79, m12_82, m12_83, m12_84u, m12_84i, m12_84r, m12_85, m12_86, m12_89, m12_90, m12_93, m12_94, m12_95, m12_96, m12_97, m12_100, m12_101, m12_102, m12_103, m12_104, m12_107, m12_110, m12_111, m12_112, m12_115, m13_0, m13_1u, m13_2, m13_3, m13_5, m13_8, m13_9, m13_12, m13_13, m13_14, m13_15, m13_18, m13_21, m13_22i, m13_23, m13_24, m13_25, m13_28, m13_31, m13_32, m13_35, m13_38, m13_39, m13_42, m13_43, m13_46, m13_47, m13_48, m13_49, m13_50, m13_51, m13_52, m13_53, m13_56, m13_59, m13_60i, m13_61, m13_62, m13_64, m13_67, m13_68, m13_71, m13_72, m13_73, m13_74, m13_75, m13_78, m13_79, m13_80, m13_81, m13_82, m13_83, m13_84, m13_87, m13_90, m13_91, m13_94, m13_95, m13_96i, m13_97, m13_98, m13_101, m13_102, m13_105, m13_106, m13_107u, m13_107i, m13_107r, m13_108, m13_109, m13_112, m13_113, m13_114, m13_115, m13_116, m13_117, m13_118, m13_119, m13_122, m13_123, m13_124u, m13_124i, m13_124r, m13_125, m13_126, m13_129, m13_130, m13_133, m13_136, m13_137, m13_140, m13_141, m13_142, m13_143, m13_146, m13_149, m14_0, m14_1, m14_4, m14_7, m14_8, m14_9, m14_10, m14_13, m14_14, m14_17, m14_20, m14_21, m14_22, m14_23, m14_26u, m14_27, m14_28, m14_29, m14_32, m14_33, m14_34, m14_35, m14_38, m14_39, m14_40, m14_41, m14_44, m14_45, m14_46, m14_47, m15_0, m15_1, m15_4, m15_5, m15_6, m15_9, m15_12, m15_13, m15_14, m15_15u, m15_16, m15_17u, m15_18, m15_19, m15_20, m15_23, m15_26, m15_27, m15_30, m15_33, m15_34, m15_37, m15_38, m15_39u, m15_39i, m15_39r, m15_41, m15_43, m15_46, m15_47, m15_50, m15_52, m15_53, m15_54, m15_57, m15_58, m15_59, m15_62, m15_63, m15_64, m15_67, m15_70, m15_73, m15_76, m15_77, m16_0, m16_1, m16_4, m17_0, m17_1, m17_4u, m17_6, m17_7, m17_8, m17_11, m17_12, m17_13, m17_16, m17_17, m17_19, m17_22, m17_23, m17_26, m17_28, m17_29, m17_32, m17_33, m17_34, m17_35, m17_36, m17_37, m17_38, m17_41, m17_43, m17_44, m17_47, m17_48, m17_49, m17_50, m17_51, m17_54, m17_56, m17_57, m17_60, m17_61, m17_62, m17_63, m17_64, m17_67, m17_69, m17_70, m17_71, m17_72, m17_74, m17_75u, m17_77, m17_79, m17_81, m17_82u, m17_84, m17_85u, m17_87, m17_89, m17_91, m17_94, m17_95, m17_98, m17_100, m17_102, m17_103, m17_104, m17_107, m17_109, m17_111, m17_112, m17_113, m17_114, m17_117, m17_120, m17_121i, m17_123, m17_124u, m17_126, m17_128, m17_131, m17_134, m17_136, m17_139, m17_140, m17_143, m17_145, m17_147, m17_148, m17_149, m17_150, m17_151, m17_152, m17_155, m17_156, m17_159, m17_161, m17_163, m17_164, m17_165, m17_166, m17_168, m17_169, m17_170, m17_173, m17_175, m17_176i, m17_178, m17_181, m17_184, m17_185, m17_188, m17_189, m17_191, m17_192, m17_193, m17_196, m17_198, m17_200, m17_201, m18_0, m18_1, m18_2, m18_3u, m18_5, m18_6, m18_7, m18_8u, m18_10, m18_11, m18_12, m18_13u, m18_15, m18_16, m18_17, m18_18u, m18_20, m18_22, m18_23, m18_24u, m18_26, m18_28, m18_29, m18_30u, m18_32, m18_35, m18_36, m18_37, m18_39, m18_42u, m18_44, m18_46, m18_48, m18_51, m18_54, m18_55, m18_56, m18_58, m18_60, m18_63, m18_66, m18_67, m18_68, m18_70, m18_72, m18_75, m18_78, m18_79, m18_80, m18_82, m18_84, m18_87, m18_90, m18_91, m18_92, m18_94, m18_96, m18_99, m18_102, m18_103, m18_104, m18_106, m18_108, m18_111, m18_114, m18_115, m18_116, m18_118, m18_121, m18_122, m18_125, m18_127, m18_130, m18_131, m18_134, m18_135, m18_136, m18_138, m18_140, m18_143, m18_145, m18_147, m18_150, m18_151, m18_154, m18_155u, m18_157, m18_159, m18_161, m18_164, m18_166, m18_168, m18_171, m18_172, m18_175, m18_176u, m18_178, m18_180, m18_182, m18_185, m18_187, m18_189, m18_192, m18_193, m18_196, m18_197u, m18_199, m18_201, m18_203, m18_204, m18_206, m18_207u, m18_209, m18_211, m18_212, m18_215, m18_216, m18_219, m18_221, m18_222, m18_225, m18_226, m18_229, m18_231, m18_232, m18_235, m18_236, m18_239, m18_240u, m18_242, m18_244, m18_247, m18_249, m18_252, m18_253, m18_256, m18_257, m18_260, m18_261, m18_262, m18_264, m18_267, m18_269, m18_272, m18_273, m18_274, m18_276, m18_279, m18_281, m18_284, m18_285, m18_286, m18_288, m18_290, m18_293, m18_295, m18_297, m18_300, m18_302, m18_304, m18_307, m18_308, m18_311, m18_312u, m18_314, m18_315, m18_317, m18_318, m18_320, m18_321u, m18_323, m18_324, m18_326, m18_327, m18_329, m18_330u, m18_332, m18_333, m18_335, m18_336, m18_338, m18_339u, m18_341, m18_342, m18_344, m18_346, m18_349, m18_350, m18_353, m18_354, m18_355, m18_357, m18_359, m18_362, m18_364, m18_366, m18_369, m18_370, m18_373, m18_374, m18_375u, m18_377, m18_378, m18_380, m18_381, m18_382, m18_384, m18_385, m18_386, m18_388, m18_389u, m18_391, m18_392, m18_394, m18_395, m18_396, m18_398, m18_399, m18_400, m18_402, m18_403u, m18_405, m18_407, m18_409, m18_412, m18_413, m18_416, m18_417u, m18_419, m18_421, m18_422, m18_425, m18_428, m18_429, m18_430, m18_432, m18_433, m18_436, m18_438, m18_441, m18_442, m18_443, m18_445, m18_446, m18_449, m18_451, m18_454, m18_455, m18_456, m18_458, m18_459, m18_462, m18_464, m18_467, m18_468, m18_469, m18_471, m18_472, m18_475, m18_476, m18_479, m18_480, m18_481, m18_483, m18_484, m18_487, m18_490, m18_491, m18_492, m18_494, m18_497, m18_499, m18_501, m18_502, m18_504, m18_505, m18_506, m18_507, m18_510, m18_511, m18_514, m18_515, nb0, nb1, ou_a, Option.toList_some, Option.toList_none, List.nil_append, List.cons_append, ou_same, ou_comm, setA_same, getA_set2, setA_len, inB_iff, A0g_0, A0g_1, A0g_2, A0g_3, A0g_4, A0g_5, A0g_6, A0g_7, A0g_8, A0g_9, A0g_10, A0l_0, A0l_1, A0l_2, A0l_3, A0l_4, A0l_5, A0l_6, A0l_7, A0l_8, A0l_9, A0l_10]
    refine ⟨?_, ?_⟩ <;> simp only [ou_a, setA_len, put_len, put_tot, pad_0, tot_nil, List.length_nil, List.length_cons, A0l_0, A0l_1, A0l_2, A0l_3, A0l_4, A0l_5, A0l_6, A0l_7, A0l_8, A0l_9, A0l_10] <;> simp [setA_len, put_len, put_tot, pad_0, tot_nil, List.length_nil, List.length_cons, A0l_0, A0l_1, A0l_2, A0l_3, A0l_4, A0l_5, A0l_6, A0l_7, A0l_8, A0l_9, A0l_10]
set_option maxRecDepth 1000000 in
set_option maxHeartbeats 20000000 in
theorem own_law (i0 : Int32) (i1 : Int32) (i2 : Int32) (i3 : Int32) (i4 : Int32) (i5 : Int32) : W tables_1 dn 0 x code ret 0 (entry [.int i0, .int i1, .int i2, .int i3, .int i4, .int i5] maxLocals) [] [] (fun v H1 => v = some (.int 1) ∧ H1.length - ([] : AHeap).length ≤ 32 ∧ tot tables_1 H1 - tot tables_1 [] ≤ 4224) := by
  rcases own_bit i0 with e0 | e0 <;> rcases own_bit i1 with e1 | e1 <;> rcases own_bit i2 with e2 | e2 <;> rcases own_bit i3 with e3 | e3
  · exact own_t0000 _ _ _ _ _ _ e0 e1 e2 e3
  · exact own_t0001 _ _ _ _ _ _ e0 e1 e2 e3
  · exact own_t0010 _ _ _ _ _ _ e0 e1 e2 e3
  · exact own_t0011 _ _ _ _ _ _ e0 e1 e2 e3
  · exact own_t0100 _ _ _ _ _ _ e0 e1 e2 e3
  · exact own_t0101 _ _ _ _ _ _ e0 e1 e2 e3
  · exact own_t0110 _ _ _ _ _ _ e0 e1 e2 e3
  · exact own_t0111 _ _ _ _ _ _ e0 e1 e2 e3
  · exact own_t1000 _ _ _ _ _ _ e0 e1 e2 e3
  · exact own_t1001 _ _ _ _ _ _ e0 e1 e2 e3
  · exact own_t1010 _ _ _ _ _ _ e0 e1 e2 e3
  · exact own_t1011 _ _ _ _ _ _ e0 e1 e2 e3
  · exact own_t1100 _ _ _ _ _ _ e0 e1 e2 e3
  · exact own_t1101 _ _ _ _ _ _ e0 e1 e2 e3
  · exact own_t1110 _ _ _ _ _ _ e0 e1 e2 e3
  · exact own_t1111 _ _ _ _ _ _ e0 e1 e2 e3
theorem own_dn : ∀ f' l', dnOf dn x = some (f', l') → f' ≤ room_1.frames ∧ l' ≤ room_1.locals := by
  have h : dnOf dn x = some (4, 65) := by decide +kernel
  intro f' l' q; rw [h] at q; cases q; decide
theorem own_pn : Jvm.plainName x.cls = true := by first | (simp [Jvm.plainName, overriddenIn, x]; done) | decide +kernel
theorem own_rm (l : Launch) (Z : State) (a0 : Array Value) (hw : ∀ d ∈ tables_1, d.before a0 Z = true) (i0 : Int32) (i1 : Int32) (i2 : Int32) (i3 : Int32) (i4 : Int32) (i5 : Int32) (h : Heap) :
    MetFree l x (head1 (Jvm.Cond.code x code maxLocals ret :: tables_1) room_1) (fun a U => a = #[.int i0, .int i1, .int i2, .int i3, .int i4, .int i5] ∧ Z.Warmed39 U.vm ∧ U.heap = h) (fun _ _ _ _ _ => True) (fun _ U o U' => ∃ w L, o = .returned w ∧ (w = some (.int 1) ∧ Fr h.size L) ∧ FrameEnd U o U' L 32 4224) :=
  law_of (as := [.int i0, .int i1, .int i2, .int i3, .int i4, .int i5]) (mx := maxLocals) (f := room_1.frames) (lc := room_1.locals) hw l tables_1 own_pn (by show 6 ≤ 26; omega) (own_law i0 i1 i2 i3 i4 i5) own_dn (Sim.empty Z tables_1 h)
set_option maxRecDepth 65536 in
set_option maxHeartbeats 40000000 in
theorem comes_1 {Post : Tables → Env → Array Value → State → Outcome → State → Prop} (hpost : ∀ tb e args s v u, (limb_1_1.after args s (.returned v) u = true ∧ limb_1_2.after args s (.returned v) u = true ∧ True) → FrameEnd s (.returned v) u (Jvm.fieldLocs frame_1_writes args s ++ Jvm.arrayLocs frame_1_arrays args s ++ Jvm.staticLocs frame_1_statics s) 32 4224 → Post tb e args s (.returned v) u) :
    ArmFor flags0 classFile x code maxLocals ret World_1 tables_1 room_1 Calls_1 rest_1 Pre_1 Post := by
  intro l hfl _ _ p e ha hc hk s m args below hf hA hF happ hP
  obtain ⟨hcalls, hrest, hpre⟩ := hP
  obtain ⟨-, -, -, hnamed, -, -, -, hat⟩ := (Spec.applies_iff hf).mp happ
  obtain ⟨hg, hn⟩ := and_e (Cond.before_iff.mp (show (Jvm.Cond.and given_1 narrow_1).before args s = true from hpre))
  obtain ⟨g0, t0⟩ := and_e hg
  obtain ⟨q0, t1⟩ := and_e t0
  obtain ⟨q1, t2⟩ := and_e t1
  obtain ⟨q2, t3⟩ := and_e t2
  obtain ⟨q3, t4⟩ := and_e t3
  obtain ⟨q4, t5⟩ := and_e t4
  have q5 := t5
  obtain ⟨w0, w1, w2, w3, w4, w5, rfl⟩ : ∃ w0 w1 w2 w3 w4 w5 : Value, args = #[w0, w1, w2, w3, w4, w5] := by
    have hs : args.size = 6 := by simpa [Cond.value, given_1] using g0
    obtain ⟨L⟩ := args
    match L, hs with
    | [w0, w1, w2, w3, w4, w5], _ => exact ⟨w0, w1, w2, w3, w4, w5, rfl⟩
  have hw := fun d (hd : d ∈ tables_1) => atoms_spec (ws := Jvm.Cond.code x code maxLocals ret :: tables_1) hat d (List.mem_cons_of_mem _ hd)
  obtain ⟨i0, ei0⟩ := is_v q0
  obtain rfl : w0 = (.int i0) := Option.some.inj ei0
  obtain ⟨i1, ei1⟩ := is_v q1
  obtain rfl : w1 = (.int i1) := Option.some.inj ei1
  obtain ⟨i2, ei2⟩ := is_v q2
  obtain rfl : w2 = (.int i2) := Option.some.inj ei2
  obtain ⟨i3, ei3⟩ := is_v q3
  obtain rfl : w3 = (.int i3) := Option.some.inj ei3
  obtain ⟨i4, ei4⟩ := is_v q4
  obtain rfl : w4 = (.int i4) := Option.some.inj ei4
  obtain ⟨i5, ei5⟩ := is_v q5
  obtain rfl : w5 = (.int i5) := Option.some.inj ei5
  obtain ⟨n, o, h1, h2, h3, _, L, rfl, ⟨rfl, N⟩, hq⟩ := own_rm l s _ hw i0 i1 i2 i3 i4 i5 s.heap p e ha hc hk s m _ below hf ((Spec.applies_iff_loose hf).mp happ).1 ⟨rfl, State.Warmed39.refl s, rfl⟩ trivial
  exact ⟨n, _, h1, h2, h3, hpost _ _ _ _ _ _ ⟨Cond.after_iff.mpr rfl, Cond.after_iff.mpr (eq_i res_at (Term.int_eval (1)) rfl), trivial⟩ ⟨hq.1, hq.2.1, (hq.2.2.sift fun y hy => Or.inr (N y hy)).mono (by decide) (by decide)⟩⟩
theorem main_1_1 : Claimed_1_1 := comes_1 fun _ _ _ _ _ _ h hF => ⟨h.1, hF⟩
theorem main_1_2 : Claimed_1_2 := comes_1 fun _ _ _ _ _ _ h hF => ⟨h.2.1, hF⟩
end Jvm.Pilot.@@N@@
namespace Jvm.Pilot.@@N@@
open Jvm Jvm.ClassFile Sem Op Lib Jvm.Free Jvm.Stand Jvm.Pilot.@@N@@.Jvm.D
/-! MADE BY PROGRAM (witnessworld.py) out of the Statement's table words and the real class files: 11 classes; the members and pool entries that the words name. The judged class is class 1, her method 1. -/
namespace start1
open Jvm.ClassFile
def u (s : String) : CpInfo := .utf8 (stringToUtf16 s)
/-- a pool by its gaps: so many unusable entries, then the entry; so many at the end -/
def gap : Nat → List CpInfo → List CpInfo
  | 0, r => r
  | n + 1, r => .unusable :: gap n r
def poolList (es : List (Nat × CpInfo)) (last : Nat) : List CpInfo := es.foldr (fun e r => gap e.1 (e.2 :: r)) (gap last [])
def pool (es : List (Nat × CpInfo)) (last : Nat) : Array CpInfo := ⟨poolList es last⟩
def fileOf (pool : Array CpInfo) (this : Nat) (attrs : Array Attribute := #[]) (ms : Array MethodInfo := #[]) (fl : Nat := 33) (sup : Nat := 0) (ifs : Array Nat := #[]) (fds : Array FieldInfo := #[]) : ClassFile where
  minorVersion := 0
  majorVersion := 65
  constantPool := pool
  accessFlags := fl
  thisClass := this
  superClass := sup
  interfaces := ifs
  fields := fds
  methods := ms
  attributes := attrs
def plain (name : String) (sup : Option ClassId) : Class where
  name := name
  kind := .ordinary
  loader := none
  accessFlags := 33
  super := sup
  interfaces := #[]
  cf := none
  fields := #[]
  methods := #[]
  instanceTypes := #[]
  staticTypes := #[]
  resolved := #[]
  callSites := []
  init := .initialized
  statics := none
  mirror := none

def pool0 : Array CpInfo := pool [(5, u "<init>"), (0, u "()V"), (1, .class_ 10), (1, u "java/lang/Object")] 113

def k0c0 : Code := { maxStack := 0, maxLocals := 1, code := object_method_1_code, exceptionTable := #[], attributes := #[] }
def k0m0 : Method := { name := "<init>", desc := "()V", sig := { parameters := [], returnType := none }, accessFlags := 1, code := some k0c0 }
/-- java/lang/Object -/
def k0 : Class := { plain "java/lang/Object" none with
  accessFlags := 33
  interfaces := #[]
  cf := some (fileOf pool0 8 #[] #[{ accessFlags := 1, nameIndex := 5, descriptorIndex := 6, attributes := #[] }] 33 0 #[] #[])
  fields := #[]
  methods := #[k0m0]
  instanceTypes := #[]
  staticTypes := #[]
  resolved := Array.replicate 124 none
  statics := none }

def pool1 : Array CpInfo := pool [(2, .class_ 4), (1, u "java/lang/Object"), (0, u "<init>"), (0, u "()V"), (0, .class_ 8), (0, u "SuffixAutomat"), (0, .methodref 7 10), (0, .nameAndType 5 11), (0, u "(II)V"), (0, .methodref 7 13), (0, .nameAndType 14 15), (0, u "append"), (0, u "(I)Z"), (0, .methodref 7 17), (0, .nameAndType 18 15), (0, u "pushPattern"), (0, .methodref 7 20), (0, .nameAndType 21 22), (0, u "length"), (0, u "()I"), (0, .methodref 7 24), (0, .nameAndType 25 22), (0, u "patternLength"), (0, .methodref 7 27), (0, .nameAndType 28 29), (0, u "contains"), (0, u "()Z"), (0, .methodref 7 31), (0, .nameAndType 32 22), (0, u "occurrences"), (0, .methodref 7 34), (0, .nameAndType 35 22), (0, u "firstOccurrence"), (0, .methodref 7 37), (0, .nameAndType 38 39), (0, u "distinctOfLength"), (0, u "(I)I"), (0, .methodref 7 41), (0, .nameAndType 42 22), (0, u "distinctCount"), (0, .class_ 44), (0, u "SuffixAutomatL3"), (2, u "law"), (0, u "(IIIIII)Z")] 3

def k1m0 : Method := { name := "<init>", desc := "()V", sig := { parameters := [], returnType := none }, accessFlags := 1, code := none }
def k1c1 : Code := { maxStack := 4, maxLocals := 26, code := code, exceptionTable := #[], attributes := #[] }
def k1m1 : Method := { name := "law", desc := "(IIIIII)Z", sig := { parameters := [.int, .int, .int, .int, .int, .int], returnType := some .boolean }, accessFlags := 9, code := some k1c1 }
/-- SuffixAutomatL3 -/
def k1 : Class := { plain "SuffixAutomatL3" (some 0) with
  accessFlags := 49
  interfaces := #[]
  cf := some (fileOf pool1 43 #[] #[{ accessFlags := 1, nameIndex := 5, descriptorIndex := 6, attributes := #[] }, { accessFlags := 9, nameIndex := 47, descriptorIndex := 48, attributes := #[] }] 49 2 #[] #[])
  fields := #[]
  methods := #[k1m0, k1m1]
  instanceTypes := #[]
  staticTypes := #[]
  resolved := Array.replicate 52 none
  statics := none }

def pool2 : Array CpInfo := pool [(1, .methodref 2 3), (0, .class_ 4), (0, .nameAndType 5 6), (0, u "java/lang/Object"), (0, u "<init>"), (0, u "()V"), (0, .fieldref 8 9), (0, .class_ 10), (0, .nameAndType 11 12), (0, u "SuffixAutomat"), (0, u "text"), (0, u "[I"), (0, .fieldref 8 14), (0, .nameAndType 15 12), (0, u "pat"), (0, .fieldref 8 17), (0, .nameAndType 18 12), (0, u "oth"), (0, .fieldref 8 20), (0, .nameAndType 21 12), (0, u "next"), (0, .fieldref 8 23), (0, .nameAndType 24 12), (0, u "link"), (0, .fieldref 8 26), (0, .nameAndType 27 12), (0, u "len"), (0, .fieldref 8 29), (0, .nameAndType 30 12), (0, u "firstEnd"), (0, .fieldref 8 32), (0, .nameAndType 33 34), (0, u "cloned"), (0, u "[Z"), (0, .fieldref 8 36), (0, .nameAndType 37 12), (0, u "cnt"), (0, .fieldref 8 39), (0, .nameAndType 40 12), (0, u "order"), (0, .fieldref 8 42), (0, .nameAndType 43 12), (0, u "bucket"), (0, .fieldref 8 45), (0, .nameAndType 46 47), (0, u "alpha"), (0, u "I"), (0, .fieldref 8 49), (0, .nameAndType 50 47), (0, u "cap"), (0, .fieldref 8 52), (0, .nameAndType 53 47), (0, u "n"), (0, .fieldref 8 55), (0, .nameAndType 56 47), (0, u "m"), (0, .fieldref 8 58), (0, .nameAndType 59 47), (0, u "q"), (0, .methodref 8 61), (0, .nameAndType 62 6), (0, u "resetAutomaton"), (0, .methodref 8 64), (0, .nameAndType 65 66), (0, u "extend"), (0, u "(I)V"), (0, .methodref 8 68), (0, .nameAndType 69 70), (0, u "walkPattern"), (0, u "()I"), (0, .methodref 8 72), (0, .nameAndType 73 6), (0, u "ensureCounts"), (0, .fieldref 8 75), (0, .nameAndType 76 47), (0, u "distinct"), (0, .fieldref 8 78), (0, .nameAndType 79 47), (0, u "size"), (5, u "lcsLen"), (2, u "lcsEnd"), (0, .fieldref 8 90), (0, .nameAndType 91 47), (0, u "last"), (0, .fieldref 8 93), (0, .nameAndType 94 95), (0, u "countsValid"), (0, u "Z"), (0, .methodref 8 97), (0, .nameAndType 98 66), (0, u "clearState"), (0, .methodref 8 100), (0, .nameAndType 101 102), (0, u "addEdges"), (0, u "(III)I"), (0, .methodref 8 104), (0, .nameAndType 105 106), (0, u "splitState"), (0, u "(IIII)V"), (0, .methodref 8 108), (0, .nameAndType 109 6), (0, u "sortByLength"), (0, u "MIN_ALPHABET"), (2, u "MAX_ALPHABET"), (1, u "MIN_CAPACITY"), (0, u "MAX_CAPACITY"), (1, u "PATTERN_CAPACITY"), (0, u "OTHER_CAPACITY"), (0, u "NONE"), (1, u "(II)V"), (3, u "append"), (0, u "(I)Z"), (0, u "length"), (1, u "(I)I"), (1, u "pushPattern"), (0, u "patternLength"), (0, u "contains"), (0, u "()Z"), (0, u "occurrences"), (0, u "firstOccurrence"), (0, u "distinctCount"), (0, u "distinctOfLength")] 8

def k2c0 : Code := { maxStack := 2, maxLocals := 5, code := prog_1_method_1_code, exceptionTable := #[], attributes := #[] }
def k2m0 : Method := { name := "<init>", desc := "(II)V", sig := { parameters := [.int, .int], returnType := none }, accessFlags := 1, code := some k2c0 }
def k2c1 : Code := { maxStack := 3, maxLocals := 2, code := prog_1_method_2_code, exceptionTable := #[], attributes := #[] }
def k2m1 : Method := { name := "append", desc := "(I)Z", sig := { parameters := [.int], returnType := some .boolean }, accessFlags := 1, code := some k2c1 }
def k2c2 : Code := { maxStack := 1, maxLocals := 1, code := prog_1_method_3_code, exceptionTable := #[], attributes := #[] }
def k2m2 : Method := { name := "length", desc := "()I", sig := { parameters := [], returnType := some .int }, accessFlags := 1, code := some k2c2 }
def k2c3 : Code := { maxStack := 3, maxLocals := 2, code := prog_1_method_6_code, exceptionTable := #[], attributes := #[] }
def k2m3 : Method := { name := "pushPattern", desc := "(I)Z", sig := { parameters := [.int], returnType := some .boolean }, accessFlags := 1, code := some k2c3 }
def k2c4 : Code := { maxStack := 1, maxLocals := 1, code := prog_1_method_7_code, exceptionTable := #[], attributes := #[] }
def k2m4 : Method := { name := "patternLength", desc := "()I", sig := { parameters := [], returnType := some .int }, accessFlags := 1, code := some k2c4 }
def k2c5 : Code := { maxStack := 2, maxLocals := 1, code := prog_1_method_8_code, exceptionTable := #[], attributes := #[] }
def k2m5 : Method := { name := "contains", desc := "()Z", sig := { parameters := [], returnType := some .boolean }, accessFlags := 1, code := some k2c5 }
def k2c6 : Code := { maxStack := 2, maxLocals := 2, code := prog_1_method_9_code, exceptionTable := #[], attributes := #[] }
def k2m6 : Method := { name := "occurrences", desc := "()I", sig := { parameters := [], returnType := some .int }, accessFlags := 1, code := some k2c6 }
def k2c7 : Code := { maxStack := 2, maxLocals := 2, code := prog_1_method_10_code, exceptionTable := #[], attributes := #[] }
def k2m7 : Method := { name := "firstOccurrence", desc := "()I", sig := { parameters := [], returnType := some .int }, accessFlags := 1, code := some k2c7 }
def k2c8 : Code := { maxStack := 1, maxLocals := 1, code := prog_1_method_11_code, exceptionTable := #[], attributes := #[] }
def k2m8 : Method := { name := "distinctCount", desc := "()I", sig := { parameters := [], returnType := some .int }, accessFlags := 1, code := some k2c8 }
def k2c9 : Code := { maxStack := 3, maxLocals := 5, code := prog_1_method_12_code, exceptionTable := #[], attributes := #[] }
def k2m9 : Method := { name := "distinctOfLength", desc := "(I)I", sig := { parameters := [.int], returnType := some .int }, accessFlags := 1, code := some k2c9 }
def k2c10 : Code := { maxStack := 2, maxLocals := 1, code := prog_1_method_18_code, exceptionTable := #[], attributes := #[] }
def k2m10 : Method := { name := "resetAutomaton", desc := "()V", sig := { parameters := [], returnType := none }, accessFlags := 2, code := some k2c10 }
def k2c11 : Code := { maxStack := 3, maxLocals := 4, code := prog_1_method_19_code, exceptionTable := #[], attributes := #[] }
def k2m11 : Method := { name := "clearState", desc := "(I)V", sig := { parameters := [.int], returnType := none }, accessFlags := 2, code := some k2c11 }
def k2c12 : Code := { maxStack := 6, maxLocals := 5, code := prog_1_method_20_code, exceptionTable := #[], attributes := #[] }
def k2m12 : Method := { name := "extend", desc := "(I)V", sig := { parameters := [.int], returnType := none }, accessFlags := 2, code := some k2c12 }
def k2c13 : Code := { maxStack := 3, maxLocals := 6, code := prog_1_method_21_code, exceptionTable := #[], attributes := #[] }
def k2m13 : Method := { name := "addEdges", desc := "(III)I", sig := { parameters := [.int, .int, .int], returnType := some .int }, accessFlags := 2, code := some k2c13 }
def k2c14 : Code := { maxStack := 5, maxLocals := 10, code := prog_1_method_22_code, exceptionTable := #[], attributes := #[] }
def k2m14 : Method := { name := "splitState", desc := "(IIII)V", sig := { parameters := [.int, .int, .int, .int], returnType := none }, accessFlags := 2, code := some k2c14 }
def k2c15 : Code := { maxStack := 3, maxLocals := 5, code := prog_1_method_23_code, exceptionTable := #[], attributes := #[] }
def k2m15 : Method := { name := "walkPattern", desc := "()I", sig := { parameters := [], returnType := some .int }, accessFlags := 2, code := some k2c15 }
def k2c16 : Code := { maxStack := 5, maxLocals := 4, code := prog_1_method_24_code, exceptionTable := #[], attributes := #[] }
def k2m16 : Method := { name := "ensureCounts", desc := "()V", sig := { parameters := [], returnType := none }, accessFlags := 2, code := some k2c16 }
def k2c17 : Code := { maxStack := 6, maxLocals := 4, code := prog_1_method_25_code, exceptionTable := #[], attributes := #[] }
def k2m17 : Method := { name := "sortByLength", desc := "()V", sig := { parameters := [], returnType := none }, accessFlags := 2, code := some k2c17 }
/-- SuffixAutomat -/
def k2 : Class := { plain "SuffixAutomat" (some 0) with
  accessFlags := 49
  interfaces := #[]
  cf := some (fileOf pool2 8 #[] #[{ accessFlags := 1, nameIndex := 5, descriptorIndex := 122, attributes := #[] }, { accessFlags := 1, nameIndex := 126, descriptorIndex := 127, attributes := #[] }, { accessFlags := 1, nameIndex := 128, descriptorIndex := 70, attributes := #[] }, { accessFlags := 1, nameIndex := 132, descriptorIndex := 127, attributes := #[] }, { accessFlags := 1, nameIndex := 133, descriptorIndex := 70, attributes := #[] }, { accessFlags := 1, nameIndex := 134, descriptorIndex := 135, attributes := #[] }, { accessFlags := 1, nameIndex := 136, descriptorIndex := 70, attributes := #[] }, { accessFlags := 1, nameIndex := 137, descriptorIndex := 70, attributes := #[] }, { accessFlags := 1, nameIndex := 138, descriptorIndex := 70, attributes := #[] }, { accessFlags := 1, nameIndex := 139, descriptorIndex := 130, attributes := #[] }, { accessFlags := 2, nameIndex := 62, descriptorIndex := 6, attributes := #[] }, { accessFlags := 2, nameIndex := 98, descriptorIndex := 66, attributes := #[] }, { accessFlags := 2, nameIndex := 65, descriptorIndex := 66, attributes := #[] }, { accessFlags := 2, nameIndex := 101, descriptorIndex := 102, attributes := #[] }, { accessFlags := 2, nameIndex := 105, descriptorIndex := 106, attributes := #[] }, { accessFlags := 2, nameIndex := 69, descriptorIndex := 70, attributes := #[] }, { accessFlags := 2, nameIndex := 73, descriptorIndex := 6, attributes := #[] }, { accessFlags := 2, nameIndex := 109, descriptorIndex := 6, attributes := #[] }] 49 2 #[] #[{ accessFlags := 25, nameIndex := 110, descriptorIndex := 47, attributes := #[] }, { accessFlags := 25, nameIndex := 113, descriptorIndex := 47, attributes := #[] }, { accessFlags := 25, nameIndex := 115, descriptorIndex := 47, attributes := #[] }, { accessFlags := 25, nameIndex := 116, descriptorIndex := 47, attributes := #[] }, { accessFlags := 25, nameIndex := 118, descriptorIndex := 47, attributes := #[] }, { accessFlags := 25, nameIndex := 119, descriptorIndex := 47, attributes := #[] }, { accessFlags := 25, nameIndex := 120, descriptorIndex := 47, attributes := #[] }, { accessFlags := 2, nameIndex := 46, descriptorIndex := 47, attributes := #[] }, { accessFlags := 2, nameIndex := 50, descriptorIndex := 47, attributes := #[] }, { accessFlags := 18, nameIndex := 11, descriptorIndex := 12, attributes := #[] }, { accessFlags := 18, nameIndex := 15, descriptorIndex := 12, attributes := #[] }, { accessFlags := 18, nameIndex := 18, descriptorIndex := 12, attributes := #[] }, { accessFlags := 2, nameIndex := 53, descriptorIndex := 47, attributes := #[] }, { accessFlags := 2, nameIndex := 56, descriptorIndex := 47, attributes := #[] }, { accessFlags := 2, nameIndex := 59, descriptorIndex := 47, attributes := #[] }, { accessFlags := 18, nameIndex := 21, descriptorIndex := 12, attributes := #[] }, { accessFlags := 18, nameIndex := 24, descriptorIndex := 12, attributes := #[] }, { accessFlags := 18, nameIndex := 27, descriptorIndex := 12, attributes := #[] }, { accessFlags := 18, nameIndex := 30, descriptorIndex := 12, attributes := #[] }, { accessFlags := 18, nameIndex := 33, descriptorIndex := 34, attributes := #[] }, { accessFlags := 18, nameIndex := 37, descriptorIndex := 12, attributes := #[] }, { accessFlags := 18, nameIndex := 40, descriptorIndex := 12, attributes := #[] }, { accessFlags := 18, nameIndex := 43, descriptorIndex := 12, attributes := #[] }, { accessFlags := 2, nameIndex := 79, descriptorIndex := 47, attributes := #[] }, { accessFlags := 2, nameIndex := 91, descriptorIndex := 47, attributes := #[] }, { accessFlags := 2, nameIndex := 76, descriptorIndex := 47, attributes := #[] }, { accessFlags := 2, nameIndex := 94, descriptorIndex := 95, attributes := #[] }, { accessFlags := 2, nameIndex := 85, descriptorIndex := 47, attributes := #[] }, { accessFlags := 2, nameIndex := 88, descriptorIndex := 47, attributes := #[] }])
  fields := #[{ name := "MIN_ALPHABET", type := .int, accessFlags := 25, slot := 0, constantValue := 0 }, { name := "MAX_ALPHABET", type := .int, accessFlags := 25, slot := 1, constantValue := 0 }, { name := "MIN_CAPACITY", type := .int, accessFlags := 25, slot := 2, constantValue := 0 }, { name := "MAX_CAPACITY", type := .int, accessFlags := 25, slot := 3, constantValue := 0 }, { name := "PATTERN_CAPACITY", type := .int, accessFlags := 25, slot := 4, constantValue := 0 }, { name := "OTHER_CAPACITY", type := .int, accessFlags := 25, slot := 5, constantValue := 0 }, { name := "NONE", type := .int, accessFlags := 25, slot := 6, constantValue := 0 }, { name := "alpha", type := .int, accessFlags := 2, slot := 0, constantValue := 0 }, { name := "cap", type := .int, accessFlags := 2, slot := 1, constantValue := 0 }, { name := "text", type := (.array .int), accessFlags := 18, slot := 2, constantValue := 0 }, { name := "pat", type := (.array .int), accessFlags := 18, slot := 3, constantValue := 0 }, { name := "oth", type := (.array .int), accessFlags := 18, slot := 4, constantValue := 0 }, { name := "n", type := .int, accessFlags := 2, slot := 5, constantValue := 0 }, { name := "m", type := .int, accessFlags := 2, slot := 6, constantValue := 0 }, { name := "q", type := .int, accessFlags := 2, slot := 7, constantValue := 0 }, { name := "next", type := (.array .int), accessFlags := 18, slot := 8, constantValue := 0 }, { name := "link", type := (.array .int), accessFlags := 18, slot := 9, constantValue := 0 }, { name := "len", type := (.array .int), accessFlags := 18, slot := 10, constantValue := 0 }, { name := "firstEnd", type := (.array .int), accessFlags := 18, slot := 11, constantValue := 0 }, { name := "cloned", type := (.array .boolean), accessFlags := 18, slot := 12, constantValue := 0 }, { name := "cnt", type := (.array .int), accessFlags := 18, slot := 13, constantValue := 0 }, { name := "order", type := (.array .int), accessFlags := 18, slot := 14, constantValue := 0 }, { name := "bucket", type := (.array .int), accessFlags := 18, slot := 15, constantValue := 0 }, { name := "size", type := .int, accessFlags := 2, slot := 16, constantValue := 0 }, { name := "last", type := .int, accessFlags := 2, slot := 17, constantValue := 0 }, { name := "distinct", type := .int, accessFlags := 2, slot := 18, constantValue := 0 }, { name := "countsValid", type := .boolean, accessFlags := 2, slot := 19, constantValue := 0 }, { name := "lcsLen", type := .int, accessFlags := 2, slot := 20, constantValue := 0 }, { name := "lcsEnd", type := .int, accessFlags := 2, slot := 21, constantValue := 0 }]
  methods := #[k2m0, k2m1, k2m2, k2m3, k2m4, k2m5, k2m6, k2m7, k2m8, k2m9, k2m10, k2m11, k2m12, k2m13, k2m14, k2m15, k2m16, k2m17]
  instanceTypes := #[.int, .int, (.array .int), (.array .int), (.array .int), .int, .int, .int, (.array .int), (.array .int), (.array .int), (.array .int), (.array .boolean), (.array .int), (.array .int), (.array .int), .int, .int, .int, .boolean, .int, .int]
  staticTypes := #[.int, .int, .int, .int, .int, .int, .int]
  resolved := Array.replicate 148 none
  statics := none }

def pool3 : Array CpInfo := pool [(1, u "java/lang/Cloneable"), (0, .class_ 1), (0, u "java/lang/Object"), (0, .class_ 3)] 3

/-- java/lang/Cloneable -/
def k3 : Class := { plain "java/lang/Cloneable" (some 0) with
  accessFlags := 1537
  interfaces := #[]
  cf := some (fileOf pool3 2 #[] #[] 1537 4 #[] #[])
  fields := #[]
  methods := #[]
  instanceTypes := #[]
  staticTypes := #[]
  resolved := Array.replicate 8 none
  statics := none }

def pool4 : Array CpInfo := pool [(1, u "java/io/Serializable"), (0, .class_ 1), (0, u "java/lang/Object"), (0, .class_ 3)] 3

/-- java/io/Serializable -/
def k4 : Class := { plain "java/io/Serializable" (some 0) with
  accessFlags := 1537
  interfaces := #[]
  cf := some (fileOf pool4 2 #[] #[] 1537 4 #[] #[])
  fields := #[]
  methods := #[]
  instanceTypes := #[]
  staticTypes := #[]
  resolved := Array.replicate 8 none
  statics := none }

/-- the primitive boolean -/
def k5 : Class := { plain "boolean" none with kind := .primitive 'Z', accessFlags := 0x411 }
/-- [Z -/
def k6 : Class := { plain "[Z" (some 0) with kind := .array 5 .boolean, interfaces := #[3, 4], accessFlags := 1041 }

/-- the primitive byte -/
def k7 : Class := { plain "byte" none with kind := .primitive 'B', accessFlags := 0x411 }
/-- [B -/
def k8 : Class := { plain "[B" (some 0) with kind := .array 7 .byte, interfaces := #[3, 4], accessFlags := 1041 }

/-- the primitive int -/
def k9 : Class := { plain "int" none with kind := .primitive 'I', accessFlags := 0x411 }
/-- [I -/
def k10 : Class := { plain "[I" (some 0) with kind := .array 9 .int, interfaces := #[3, 4], accessFlags := 1041 }

def heap : Heap := #[]
def classes : Array Class := #[k0, k1, k2, k3, k4, k5, k6, k7, k8, k9, k10]
def interned : List (Array UInt16 × Addr) := []
def slotsUsed : Nat := 0
def theMethod : MethodId := ⟨1, 1⟩
def args0 : Array Value := #[.int 0, .int 1, .int 0, .int 1, .int 1, .int 0]
def aboutOver (below : List Frame) : State where
  vm := { classes := classes, interned := interned.toArray }
  heap := heap
  slotsUsed := slotsUsed
  threads := #[{ frames := .invoking theMethod args0 :: below }]
def below0 : List Frame := [.native { method := ⟨0, 0⟩, args := #[] }]
def about1 : State := aboutOver below0
def p0 : Program := .bare "" "" ""
def e0 : Env := launch0.env 0 0 0
theorem w_frames : about1.frames = Frame.invoking theMethod args0 :: below0 := rfl
set_option maxRecDepth 65536 in
theorem w_args : argsFit about1.vm theMethod args0 = true := by decide +kernel
set_option maxRecDepth 65536 in
theorem w_heap : heapFits about1 = true := by decide +kernel
set_option maxRecDepth 65536 in
theorem w_runnable : about1.curStatus? = some .runnable := by decide +kernel
set_option maxRecDepth 65536 in
theorem w_alone : about1.alone = true := by decide +kernel
set_option maxRecDepth 65536 in
theorem w_named : about1.methodNamed? x = some theMethod := by decide +kernel
set_option maxRecDepth 65536 in
theorem w_hears : about1.hears theMethod below0 = true := by decide +kernel
set_option maxRecDepth 65536 in
theorem w_ripe : about1.ripe theMethod args0 below0 = true := by decide +kernel
theorem w_running : about1.status = .running := rfl
set_option maxRecDepth 65536 in
theorem w_room : about1.hasRoom e0.platform room_1 = true :=
  launch0.hasRoom_least _ room_1 (by decide +kernel) (by decide +kernel) (by decide +kernel) (by decide +kernel) (by decide +kernel) (by decide +kernel)
theorem allAtoms_all (ts : List Jvm.Cond) (a : Array Jvm.Value) (st : Jvm.State) : (allAtoms ts).before a st = ts.all (fun c => c.before a st) := by
  induction ts with
  | nil => rfl
  | cons c t ih =>
    show (Jvm.Cond.and c (allAtoms t)).before a st = _
    rw [Jvm.Cond.before_and, ih, List.all_cons]
def words1 : List Jvm.Cond := Jvm.Cond.code x code maxLocals ret :: tables_1
/-- a 'code' word, met by the world's own term for the bytes: nothing is compared byte by byte -/
theorem code_word {y : MethodName} {bytes : ByteArray} {mx : Nat} {rt : Option FieldType} {a : Array Value} {s : State} {m : MethodId} {meth : Method} {c : Code} (h1 : s.methodNamed? y = some m) (h2 : s.vm.method? m = some meth) (h3 : meth.code = some c) (h4 : c.code = bytes)
    (h5 : (c.maxLocals == mx && c.exceptionTable.isEmpty && decide (c.maxStack ≤ mostOperands) && decide (meth.sig.returnType = rt) && !meth.locks && decide (parseMethodDescriptor y.desc = some meth.sig)) = true) : (Jvm.Cond.code y bytes mx rt).before a s = true := by
  simp only [Bool.and_eq_true, beq_iff_eq, Bool.not_eq_true', decide_eq_true_eq] at h5
  obtain ⟨⟨⟨⟨⟨g1, g2⟩, g3⟩, g4⟩, g5⟩, g6⟩ := h5
  simp [Cond.before, Cond.holds, Cond.value, h1, h2, h3, h4, g1, g2, g3, g4, g5, g6]
def isCode : Jvm.Cond → Bool
  | .code _ _ _ _ => true
  | _ => false
theorem all_split {L : List Jvm.Cond} {P : Jvm.Cond → Bool} (h1 : L.all (fun c => isCode c || P c) = true) (h2 : ∀ c ∈ L.filter isCode, P c = true) : L.all P = true := by
  refine List.all_eq_true.mpr fun c hc => ?_
  have h := List.all_eq_true.mp h1 c hc
  rcases Bool.eq_false_or_eq_true (isCode c) with hi | hi
  · exact h2 c (List.mem_filter.mpr ⟨hc, hi⟩)
  · simpa [hi] using h
set_option maxRecDepth 65536 in
theorem w_c0 : (Jvm.Cond.code x code maxLocals ret).before args0 about1 = true := code_word (m := ⟨1, 1⟩) (meth := k1m1) (c := k1c1) (by decide +kernel) rfl rfl rfl (by decide +kernel)
set_option maxRecDepth 65536 in
theorem w_c1 : (Jvm.Cond.code ({ cls := "SuffixAutomat", name := "<init>", desc := "(II)V" } : Jvm.MethodName) prog_1_method_1_code (5 : Nat) (Option.none : Option Jvm.ClassFile.FieldType)).before args0 about1 = true := code_word (m := ⟨2, 0⟩) (meth := k2m0) (c := k2c0) (by decide +kernel) rfl rfl rfl (by decide +kernel)
set_option maxRecDepth 65536 in
theorem w_c2 : (Jvm.Cond.code ({ cls := "java/lang/Object", name := "<init>", desc := "()V" } : Jvm.MethodName) object_method_1_code (1 : Nat) (Option.none : Option Jvm.ClassFile.FieldType)).before args0 about1 = true := code_word (m := ⟨0, 0⟩) (meth := k0m0) (c := k0c0) (by decide +kernel) rfl rfl rfl (by decide +kernel)
set_option maxRecDepth 65536 in
theorem w_c3 : (Jvm.Cond.code ({ cls := "SuffixAutomat", name := "resetAutomaton", desc := "()V" } : Jvm.MethodName) prog_1_method_18_code (1 : Nat) (Option.none : Option Jvm.ClassFile.FieldType)).before args0 about1 = true := code_word (m := ⟨2, 10⟩) (meth := k2m10) (c := k2c10) (by decide +kernel) rfl rfl rfl (by decide +kernel)
set_option maxRecDepth 65536 in
theorem w_c4 : (Jvm.Cond.code ({ cls := "SuffixAutomat", name := "clearState", desc := "(I)V" } : Jvm.MethodName) prog_1_method_19_code (4 : Nat) (Option.none : Option Jvm.ClassFile.FieldType)).before args0 about1 = true := code_word (m := ⟨2, 11⟩) (meth := k2m11) (c := k2c11) (by decide +kernel) rfl rfl rfl (by decide +kernel)
set_option maxRecDepth 65536 in
theorem w_c5 : (Jvm.Cond.code ({ cls := "SuffixAutomat", name := "append", desc := "(I)Z" } : Jvm.MethodName) prog_1_method_2_code (2 : Nat) (Option.some Jvm.ClassFile.FieldType.boolean)).before args0 about1 = true := code_word (m := ⟨2, 1⟩) (meth := k2m1) (c := k2c1) (by decide +kernel) rfl rfl rfl (by decide +kernel)
set_option maxRecDepth 65536 in
theorem w_c6 : (Jvm.Cond.code ({ cls := "SuffixAutomat", name := "extend", desc := "(I)V" } : Jvm.MethodName) prog_1_method_20_code (5 : Nat) (Option.none : Option Jvm.ClassFile.FieldType)).before args0 about1 = true := code_word (m := ⟨2, 12⟩) (meth := k2m12) (c := k2c12) (by decide +kernel) rfl rfl rfl (by decide +kernel)
set_option maxRecDepth 65536 in
theorem w_c7 : (Jvm.Cond.code ({ cls := "SuffixAutomat", name := "addEdges", desc := "(III)I" } : Jvm.MethodName) prog_1_method_21_code (6 : Nat) (Option.some Jvm.ClassFile.FieldType.int)).before args0 about1 = true := code_word (m := ⟨2, 13⟩) (meth := k2m13) (c := k2c13) (by decide +kernel) rfl rfl rfl (by decide +kernel)
set_option maxRecDepth 65536 in
theorem w_c8 : (Jvm.Cond.code ({ cls := "SuffixAutomat", name := "pushPattern", desc := "(I)Z" } : Jvm.MethodName) prog_1_method_6_code (2 : Nat) (Option.some Jvm.ClassFile.FieldType.boolean)).before args0 about1 = true := code_word (m := ⟨2, 3⟩) (meth := k2m3) (c := k2c3) (by decide +kernel) rfl rfl rfl (by decide +kernel)
set_option maxRecDepth 65536 in
theorem w_c9 : (Jvm.Cond.code ({ cls := "SuffixAutomat", name := "length", desc := "()I" } : Jvm.MethodName) prog_1_method_3_code (1 : Nat) (Option.some Jvm.ClassFile.FieldType.int)).before args0 about1 = true := code_word (m := ⟨2, 2⟩) (meth := k2m2) (c := k2c2) (by decide +kernel) rfl rfl rfl (by decide +kernel)
set_option maxRecDepth 65536 in
theorem w_c10 : (Jvm.Cond.code ({ cls := "SuffixAutomat", name := "patternLength", desc := "()I" } : Jvm.MethodName) prog_1_method_7_code (1 : Nat) (Option.some Jvm.ClassFile.FieldType.int)).before args0 about1 = true := code_word (m := ⟨2, 4⟩) (meth := k2m4) (c := k2c4) (by decide +kernel) rfl rfl rfl (by decide +kernel)
set_option maxRecDepth 65536 in
theorem w_c11 : (Jvm.Cond.code ({ cls := "SuffixAutomat", name := "contains", desc := "()Z" } : Jvm.MethodName) prog_1_method_8_code (1 : Nat) (Option.some Jvm.ClassFile.FieldType.boolean)).before args0 about1 = true := code_word (m := ⟨2, 5⟩) (meth := k2m5) (c := k2c5) (by decide +kernel) rfl rfl rfl (by decide +kernel)
set_option maxRecDepth 65536 in
theorem w_c12 : (Jvm.Cond.code ({ cls := "SuffixAutomat", name := "walkPattern", desc := "()I" } : Jvm.MethodName) prog_1_method_23_code (5 : Nat) (Option.some Jvm.ClassFile.FieldType.int)).before args0 about1 = true := code_word (m := ⟨2, 15⟩) (meth := k2m15) (c := k2c15) (by decide +kernel) rfl rfl rfl (by decide +kernel)
set_option maxRecDepth 65536 in
theorem w_c13 : (Jvm.Cond.code ({ cls := "SuffixAutomat", name := "occurrences", desc := "()I" } : Jvm.MethodName) prog_1_method_9_code (2 : Nat) (Option.some Jvm.ClassFile.FieldType.int)).before args0 about1 = true := code_word (m := ⟨2, 6⟩) (meth := k2m6) (c := k2c6) (by decide +kernel) rfl rfl rfl (by decide +kernel)
set_option maxRecDepth 65536 in
theorem w_c14 : (Jvm.Cond.code ({ cls := "SuffixAutomat", name := "ensureCounts", desc := "()V" } : Jvm.MethodName) prog_1_method_24_code (4 : Nat) (Option.none : Option Jvm.ClassFile.FieldType)).before args0 about1 = true := code_word (m := ⟨2, 16⟩) (meth := k2m16) (c := k2c16) (by decide +kernel) rfl rfl rfl (by decide +kernel)
set_option maxRecDepth 65536 in
theorem w_c15 : (Jvm.Cond.code ({ cls := "SuffixAutomat", name := "sortByLength", desc := "()V" } : Jvm.MethodName) prog_1_method_25_code (4 : Nat) (Option.none : Option Jvm.ClassFile.FieldType)).before args0 about1 = true := code_word (m := ⟨2, 17⟩) (meth := k2m17) (c := k2c17) (by decide +kernel) rfl rfl rfl (by decide +kernel)
set_option maxRecDepth 65536 in
theorem w_c16 : (Jvm.Cond.code ({ cls := "SuffixAutomat", name := "firstOccurrence", desc := "()I" } : Jvm.MethodName) prog_1_method_10_code (2 : Nat) (Option.some Jvm.ClassFile.FieldType.int)).before args0 about1 = true := code_word (m := ⟨2, 7⟩) (meth := k2m7) (c := k2c7) (by decide +kernel) rfl rfl rfl (by decide +kernel)
set_option maxRecDepth 65536 in
theorem w_c17 : (Jvm.Cond.code ({ cls := "SuffixAutomat", name := "distinctOfLength", desc := "(I)I" } : Jvm.MethodName) prog_1_method_12_code (5 : Nat) (Option.some Jvm.ClassFile.FieldType.int)).before args0 about1 = true := code_word (m := ⟨2, 9⟩) (meth := k2m9) (c := k2c9) (by decide +kernel) rfl rfl rfl (by decide +kernel)
set_option maxRecDepth 65536 in
theorem w_c18 : (Jvm.Cond.code ({ cls := "SuffixAutomat", name := "distinctCount", desc := "()I" } : Jvm.MethodName) prog_1_method_11_code (1 : Nat) (Option.some Jvm.ClassFile.FieldType.int)).before args0 about1 = true := code_word (m := ⟨2, 8⟩) (meth := k2m8) (c := k2c8) (by decide +kernel) rfl rfl rfl (by decide +kernel)
set_option maxRecDepth 65536 in
theorem w_c19 : (Jvm.Cond.code ({ cls := "SuffixAutomat", name := "splitState", desc := "(IIII)V" } : Jvm.MethodName) prog_1_method_22_code (10 : Nat) (Option.none : Option Jvm.ClassFile.FieldType)).before args0 about1 = true := code_word (m := ⟨2, 14⟩) (meth := k2m14) (c := k2c14) (by decide +kernel) rfl rfl rfl (by decide +kernel)
def codes1 : List Jvm.Cond := [Jvm.Cond.code x code maxLocals ret, Jvm.Cond.code ({ cls := "SuffixAutomat", name := "<init>", desc := "(II)V" } : Jvm.MethodName) prog_1_method_1_code (5 : Nat) (Option.none : Option Jvm.ClassFile.FieldType), Jvm.Cond.code ({ cls := "java/lang/Object", name := "<init>", desc := "()V" } : Jvm.MethodName) object_method_1_code (1 : Nat) (Option.none : Option Jvm.ClassFile.FieldType), Jvm.Cond.code ({ cls := "SuffixAutomat", name := "resetAutomaton", desc := "()V" } : Jvm.MethodName) prog_1_method_18_code (1 : Nat) (Option.none : Option Jvm.ClassFile.FieldType), Jvm.Cond.code ({ cls := "SuffixAutomat", name := "clearState", desc := "(I)V" } : Jvm.MethodName) prog_1_method_19_code (4 : Nat) (Option.none : Option Jvm.ClassFile.FieldType), Jvm.Cond.code ({ cls := "SuffixAutomat", name := "append", desc := "(I)Z" } : Jvm.MethodName) prog_1_method_2_code (2 : Nat) (Option.some Jvm.ClassFile.FieldType.boolean), Jvm.Cond.code ({ cls := "SuffixAutomat", name := "extend", desc := "(I)V" } : Jvm.MethodName) prog_1_method_20_code (5 : Nat) (Option.none : Option Jvm.ClassFile.FieldType), Jvm.Cond.code ({ cls := "SuffixAutomat", name := "addEdges", desc := "(III)I" } : Jvm.MethodName) prog_1_method_21_code (6 : Nat) (Option.some Jvm.ClassFile.FieldType.int), Jvm.Cond.code ({ cls := "SuffixAutomat", name := "pushPattern", desc := "(I)Z" } : Jvm.MethodName) prog_1_method_6_code (2 : Nat) (Option.some Jvm.ClassFile.FieldType.boolean), Jvm.Cond.code ({ cls := "SuffixAutomat", name := "length", desc := "()I" } : Jvm.MethodName) prog_1_method_3_code (1 : Nat) (Option.some Jvm.ClassFile.FieldType.int), Jvm.Cond.code ({ cls := "SuffixAutomat", name := "patternLength", desc := "()I" } : Jvm.MethodName) prog_1_method_7_code (1 : Nat) (Option.some Jvm.ClassFile.FieldType.int), Jvm.Cond.code ({ cls := "SuffixAutomat", name := "contains", desc := "()Z" } : Jvm.MethodName) prog_1_method_8_code (1 : Nat) (Option.some Jvm.ClassFile.FieldType.boolean), Jvm.Cond.code ({ cls := "SuffixAutomat", name := "walkPattern", desc := "()I" } : Jvm.MethodName) prog_1_method_23_code (5 : Nat) (Option.some Jvm.ClassFile.FieldType.int), Jvm.Cond.code ({ cls := "SuffixAutomat", name := "occurrences", desc := "()I" } : Jvm.MethodName) prog_1_method_9_code (2 : Nat) (Option.some Jvm.ClassFile.FieldType.int), Jvm.Cond.code ({ cls := "SuffixAutomat", name := "ensureCounts", desc := "()V" } : Jvm.MethodName) prog_1_method_24_code (4 : Nat) (Option.none : Option Jvm.ClassFile.FieldType), Jvm.Cond.code ({ cls := "SuffixAutomat", name := "sortByLength", desc := "()V" } : Jvm.MethodName) prog_1_method_25_code (4 : Nat) (Option.none : Option Jvm.ClassFile.FieldType), Jvm.Cond.code ({ cls := "SuffixAutomat", name := "firstOccurrence", desc := "()I" } : Jvm.MethodName) prog_1_method_10_code (2 : Nat) (Option.some Jvm.ClassFile.FieldType.int), Jvm.Cond.code ({ cls := "SuffixAutomat", name := "distinctOfLength", desc := "(I)I" } : Jvm.MethodName) prog_1_method_12_code (5 : Nat) (Option.some Jvm.ClassFile.FieldType.int), Jvm.Cond.code ({ cls := "SuffixAutomat", name := "distinctCount", desc := "()I" } : Jvm.MethodName) prog_1_method_11_code (1 : Nat) (Option.some Jvm.ClassFile.FieldType.int), Jvm.Cond.code ({ cls := "SuffixAutomat", name := "splitState", desc := "(IIII)V" } : Jvm.MethodName) prog_1_method_22_code (10 : Nat) (Option.none : Option Jvm.ClassFile.FieldType)]
set_option maxRecDepth 65536 in
theorem codes_eq : words1.filter isCode = codes1 := rfl
theorem w_codes : ∀ c ∈ words1.filter isCode, c.before args0 about1 = true := by
  rw [codes_eq]
  intro c hc
  simp only [codes1, List.mem_cons, List.not_mem_nil, or_false] at hc
  rcases hc with rfl | rfl | rfl | rfl | rfl | rfl | rfl | rfl | rfl | rfl | rfl | rfl | rfl | rfl | rfl | rfl | rfl | rfl | rfl | rfl
  · exact w_c0
  · exact w_c1
  · exact w_c2
  · exact w_c3
  · exact w_c4
  · exact w_c5
  · exact w_c6
  · exact w_c7
  · exact w_c8
  · exact w_c9
  · exact w_c10
  · exact w_c11
  · exact w_c12
  · exact w_c13
  · exact w_c14
  · exact w_c15
  · exact w_c16
  · exact w_c17
  · exact w_c18
  · exact w_c19
set_option maxRecDepth 65536 in
theorem w_t1 : (words1.take 24).all (fun c => isCode c || c.before args0 about1) = true := by decide +kernel
set_option maxRecDepth 65536 in
theorem w_t2 : ((words1.drop 24).take 24).all (fun c => isCode c || c.before args0 about1) = true := by decide +kernel
set_option maxRecDepth 65536 in
theorem w_t3 : (((words1.drop 24).drop 24).take 24).all (fun c => isCode c || c.before args0 about1) = true := by decide +kernel
set_option maxRecDepth 65536 in
theorem w_t4 : ((((words1.drop 24).drop 24).drop 24).take 24).all (fun c => isCode c || c.before args0 about1) = true := by decide +kernel
set_option maxRecDepth 65536 in
theorem w_t5 : (((((words1.drop 24).drop 24).drop 24).drop 24).take 24).all (fun c => isCode c || c.before args0 about1) = true := by decide +kernel
set_option maxRecDepth 65536 in
theorem w_t6 : (((((words1.drop 24).drop 24).drop 24).drop 24).drop 24).all (fun c => isCode c || c.before args0 about1) = true := by decide +kernel
theorem w_tables : (allAtoms (Jvm.Cond.code x code maxLocals ret :: tables_1)).before args0 about1 = true := by
  rw [allAtoms_all]
  show words1.all (fun c => c.before args0 about1) = true
  refine all_split ?_ w_codes
  rw [← List.take_append_drop 24 words1, List.all_append, w_t1, ← List.take_append_drop 24 (words1.drop 24), List.all_append, w_t2, ← List.take_append_drop 24 ((words1.drop 24).drop 24), List.all_append, w_t3, ← List.take_append_drop 24 (((words1.drop 24).drop 24).drop 24), List.all_append, w_t4, ← List.take_append_drop 24 ((((words1.drop 24).drop 24).drop 24).drop 24), List.all_append, w_t5, w_t6]
  rfl
set_option maxRecDepth 65536 in
theorem w_case : (Jvm.Cond.and given_1 narrow_1).before args0 about1 = true := by decide +kernel
theorem w_applies : (headSpec (Jvm.Cond.code x code maxLocals ret :: tables_1) room_1).applies x e0.platform about1 = true :=
  (Spec.applies_iff w_frames).mpr ⟨w_running, w_runnable, w_alone, w_named, w_hears, w_ripe, w_room, w_tables⟩
theorem atStart : AtStart classFile x code maxLocals ret World_1 tables_1 room_1 Calls_1 rest_1 Pre_1 launch0 p0 e0 about1 theMethod args0 below0 :=
  ⟨lists_1, trivial, launch0.admits_env _ _ _, launch0.least_env, fairChoices_fair.cas, fairChoices_fair.clock, w_frames, w_args, w_heap, w_applies, trivial, trivial, w_case⟩
end start1
theorem witness_1 : WitnessClaimed_1 := ⟨start1.p0, start1.e0, start1.about1, start1.theMethod, start1.args0, start1.below0, start1.atStart⟩
end Jvm.Pilot.@@N@@
