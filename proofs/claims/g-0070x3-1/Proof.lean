import JvmDerived
import JvmDerived.Pilot.@@N@@Statement
import JvmDerived.Pilot.@@N@@Code
set_option linter.unusedVariables false
set_option linter.unusedSimpArgs false
namespace Jvm.Own
open Sem ClassFile Op Lib Jvm.Stand Jvm.Free Jvm.LawKit Jvm.RoadKit
/-! OWN 1: words of the sheet, resolved -/
abbrev AHeap := List (FieldType × List Value)
abbrev Ws := List Jvm.Cond
def rFld (ws : Ws) (own : String) (i : Nat) : Option (String × String × String) :=
  ws.findSome? fun d => match d with
    | .fieldLink o j C n t => if o = own ∧ j = i then some (C, n, t) else none
    | _ => none
def rCls (ws : Ws) (own : String) (i : Nat) : Option String :=
  ws.findSome? fun d => match d with
    | .classLink o j C => if o = own ∧ j = i then some C else none
    | _ => none
def rMth (ws : Ws) (own : String) (i : Nat) : Option MethodName :=
  ws.findSome? fun d => match d with
    | .methodLink o j y => if o = own ∧ j = i then some y else none
    | _ => none
def rCon (ws : Ws) (own : String) (i : Nat) : Option Int32 :=
  ws.findSome? fun d => match d with
    | .constant o j v => if o = own ∧ j = i then some v else none
    | _ => none
def rConL (ws : Ws) (own : String) (i : Nat) : Option Int64 :=
  ws.findSome? fun d => match d with
    | .constantLong o j v => if o = own ∧ j = i then some v else none
    | _ => none
def rInst (ws : Ws) (C : String) : Option Nat :=
  ws.findSome? fun d => match d with
    | .instantiable c n => if c = C then some n else none
    | _ => none
def rCode (ws : Ws) (y : MethodName) : Option (ByteArray × Nat × Option FieldType) :=
  ws.findSome? fun d => match d with
    | .code z b m r => if z = y then some (b, m, r) else none
    | _ => none
def hasInit (ws : Ws) (C : String) : Bool := ws.any fun d => match d with | .initialized c => c == C | _ => false
def hasArr (ws : Ws) (t : FieldType) : Bool := ws.any fun d => match d with | .arrayClass c => decide (c = t) | _ => false
def hasStat (ws : Ws) (y : MethodName) : Bool := ws.any fun d => match d with | .static z => decide (z = y) | _ => false
def hasIM (ws : Ws) (y : MethodName) : Bool := ws.any fun d => match d with | .instanceMethod z => decide (z = y) | _ => false
def hasPriv (ws : Ws) (y : MethodName) : Bool := ws.any fun d => match d with | .privateMethod z => decide (z = y) | _ => false
def hasDecl (ws : Ws) (y : MethodName) : Bool := ws.any fun d => match d with | .declares z => decide (z = y) | _ => false
def hasSel (ws : Ws) (y : MethodName) : Bool := ws.any fun d => match d with | .selects c z z' => decide (c = y.cls ∧ z = y ∧ z' = y) | _ => false
def hasLays (ws : Ws) (C n t : String) : Bool := ws.any fun d => match d with | .lays c o n' t' => decide (c = C ∧ o = C ∧ n' = n ∧ t' = t) | _ => false
def hasLaysF (ws : Ws) (C n t : String) : Bool := ws.any fun d => match d with | .laysFinal c o n' t' => decide (c = C ∧ o = C ∧ n' = n ∧ t' = t) | _ => false
def layE (C : String) : Jvm.Cond → Option (String × String)
  | .lays c o n t => if c = C ∧ o = C ∧ (parseFieldDescriptor t).isSome = true then some (n, t) else none
  | .laysFinal c o n t => if c = C ∧ o = C ∧ (parseFieldDescriptor t).isSome = true then some (n, t) else none
  | _ => none
def olay (ws : Ws) (C : String) : List (String × String) := ws.filterMap (layE C)
def idx (x : String × String) : List (String × String) → Option Nat
  | [] => none
  | y :: r => if y = x then some 0 else (idx x r).map (· + 1)
def fidx (ws : Ws) (C n t : String) : Option Nat := idx (n, t) (olay ws C)
def gfR (ws : Ws) (own : String) (i : Nat) : Option (String × Nat) :=
  match rFld ws own i with
  | some (C, n, t) => (fidx ws C n t).map fun j => (C, j)
  | none => none
def pfR (ws : Ws) (own mn : String) (i : Nat) : Option (String × Nat × FieldType) :=
  match rFld ws own i with
  | some (C, n, t) =>
    match fidx ws C n t, parseFieldDescriptor t with
    | some j, some ty => if (hasLays ws C n t || (hasLaysF ws C n t && own == C && mn == "<init>")) && (rInst ws C).isSome && (olay ws C).all (fun q => q.1 != n || q.2 == t) then some (C, j, ty) else none
    | _, _ => none
  | none => none
section Res
variable {ws : Ws} {own C n t : String} {i : Nat} {y : MethodName}
theorem rFld_mem (h : rFld ws own i = some (C, n, t)) : Jvm.Cond.fieldLink own i C n t ∈ ws := by
  obtain ⟨d, hd, e⟩ := List.exists_of_findSome?_eq_some h
  split at e
  · split at e
    · rename_i q; obtain ⟨rfl, rfl⟩ := q; cases e; exact hd
    · cases e
  · cases e
theorem rCls_mem (h : rCls ws own i = some C) : Jvm.Cond.classLink own i C ∈ ws := by
  obtain ⟨d, hd, e⟩ := List.exists_of_findSome?_eq_some h
  split at e
  · split at e
    · rename_i q; obtain ⟨rfl, rfl⟩ := q; cases e; exact hd
    · cases e
  · cases e
theorem rMth_mem (h : rMth ws own i = some y) : Jvm.Cond.methodLink own i y ∈ ws := by
  obtain ⟨d, hd, e⟩ := List.exists_of_findSome?_eq_some h
  split at e
  · split at e
    · rename_i q; obtain ⟨rfl, rfl⟩ := q; cases e; exact hd
    · cases e
  · cases e
theorem rCon_mem {v : Int32} (h : rCon ws own i = some v) : Jvm.Cond.constant own i v ∈ ws := by
  obtain ⟨d, hd, e⟩ := List.exists_of_findSome?_eq_some h
  split at e
  · split at e
    · rename_i q; obtain ⟨rfl, rfl⟩ := q; cases e; exact hd
    · cases e
  · cases e
theorem rConL_mem {v : Int64} (h : rConL ws own i = some v) : Jvm.Cond.constantLong own i v ∈ ws := by
  obtain ⟨d, hd, e⟩ := List.exists_of_findSome?_eq_some h
  split at e
  · split at e
    · rename_i q; obtain ⟨rfl, rfl⟩ := q; cases e; exact hd
    · cases e
  · cases e
theorem rInst_mem {k : Nat} (h : rInst ws C = some k) : Jvm.Cond.instantiable C k ∈ ws := by
  obtain ⟨d, hd, e⟩ := List.exists_of_findSome?_eq_some h
  split at e
  · split at e
    · rename_i q; subst q; cases e; exact hd
    · cases e
  · cases e
theorem rCode_mem {b : ByteArray} {k : Nat} {r : Option FieldType} (h : rCode ws y = some (b, k, r)) : Jvm.Cond.code y b k r ∈ ws := by
  obtain ⟨d, hd, e⟩ := List.exists_of_findSome?_eq_some h
  split at e
  · split at e
    · rename_i q; subst q; cases e; exact hd
    · cases e
  · cases e
theorem hasInit_mem (h : hasInit ws C = true) : Jvm.Cond.initialized C ∈ ws := by
  obtain ⟨d, hd, e⟩ := List.any_eq_true.mp h
  split at e
  · rw [beq_iff_eq] at e; subst e; exact hd
  · cases e
theorem hasArr_mem {ty : FieldType} (h : hasArr ws ty = true) : Jvm.Cond.arrayClass ty ∈ ws := by
  obtain ⟨d, hd, e⟩ := List.any_eq_true.mp h
  split at e
  · have e := of_decide_eq_true e; subst e; exact hd
  · cases e
theorem hasStat_mem (h : hasStat ws y = true) : Jvm.Cond.static y ∈ ws := by
  obtain ⟨d, hd, e⟩ := List.any_eq_true.mp h
  split at e
  · have e := of_decide_eq_true e; subst e; exact hd
  · cases e
theorem hasIM_mem (h : hasIM ws y = true) : Jvm.Cond.instanceMethod y ∈ ws := by
  obtain ⟨d, hd, e⟩ := List.any_eq_true.mp h
  split at e
  · have e := of_decide_eq_true e; subst e; exact hd
  · cases e
theorem hasPriv_mem (h : hasPriv ws y = true) : Jvm.Cond.privateMethod y ∈ ws := by
  obtain ⟨d, hd, e⟩ := List.any_eq_true.mp h
  split at e
  · have e := of_decide_eq_true e; subst e; exact hd
  · cases e
theorem hasDecl_mem (h : hasDecl ws y = true) : Jvm.Cond.declares y ∈ ws := by
  obtain ⟨d, hd, e⟩ := List.any_eq_true.mp h
  split at e
  · have e := of_decide_eq_true e; subst e; exact hd
  · cases e
theorem hasSel_mem (h : hasSel ws y = true) : Jvm.Cond.selects y.cls y y ∈ ws := by
  obtain ⟨d, hd, e⟩ := List.any_eq_true.mp h
  split at e
  · obtain ⟨rfl, rfl, rfl⟩ := of_decide_eq_true e; exact hd
  · cases e
theorem hasLays_mem (h : hasLays ws C n t = true) : Jvm.Cond.lays C C n t ∈ ws := by
  obtain ⟨d, hd, e⟩ := List.any_eq_true.mp h
  split at e
  · obtain ⟨rfl, rfl, rfl, rfl⟩ := of_decide_eq_true e; exact hd
  · cases e
theorem hasLaysF_mem (h : hasLaysF ws C n t = true) : Jvm.Cond.laysFinal C C n t ∈ ws := by
  obtain ⟨d, hd, e⟩ := List.any_eq_true.mp h
  split at e
  · obtain ⟨rfl, rfl, rfl, rfl⟩ := of_decide_eq_true e; exact hd
  · cases e
theorem lay_mem (h : (n, t) ∈ olay ws C) : (Jvm.Cond.lays C C n t ∈ ws ∨ Jvm.Cond.laysFinal C C n t ∈ ws) ∧ ∃ ty, parseFieldDescriptor t = some ty := by
  obtain ⟨d, hd, e⟩ := List.mem_filterMap.mp h
  unfold layE at e
  split at e
  · split at e
    · rename_i q; obtain ⟨rfl, rfl, q⟩ := q; cases e; exact ⟨Or.inl hd, Option.isSome_iff_exists.mp q⟩
    · cases e
  · split at e
    · rename_i q; obtain ⟨rfl, rfl, q⟩ := q; cases e; exact ⟨Or.inr hd, Option.isSome_iff_exists.mp q⟩
    · cases e
  · cases e
theorem idx_get {x : String × String} : ∀ {l : List (String × String)} {j : Nat}, idx x l = some j → l[j]? = some x
  | [], _, h => by cases h
  | y :: r, j, h => by
    unfold idx at h
    split at h
    · rename_i q; cases h; simp [q]
    · obtain ⟨j', h', rfl⟩ := Option.map_eq_some_iff.mp h
      simpa using idx_get h'
theorem fidx_mem {j : Nat} (h : fidx ws C n t = some j) : (n, t) ∈ olay ws C := List.mem_of_getElem? (idx_get h)
theorem fidx_inj {n' t' : String} {j : Nat} (h : fidx ws C n t = some j) (h' : fidx ws C n' t' = some j) : n = n' ∧ t = t' := by
  have := (idx_get h).symm.trans (idx_get h')
  simpa using this
theorem gfR_some {j : Nat} (h : gfR ws own i = some (C, j)) : ∃ n t, rFld ws own i = some (C, n, t) ∧ fidx ws C n t = some j := by
  unfold gfR at h
  split at h
  · rename_i C' n' t' q
    obtain ⟨j', h', e⟩ := Option.map_eq_some_iff.mp h
    cases e; exact ⟨_, _, q, h'⟩
  · cases h
theorem pfR_some {mn : String} {j : Nat} {ty : FieldType} (h : pfR ws own mn i = some (C, j, ty)) : ∃ n t, rFld ws own i = some (C, n, t) ∧ fidx ws C n t = some j ∧ parseFieldDescriptor t = some ty ∧
    (Jvm.Cond.lays C C n t ∈ ws ∨ (Jvm.Cond.laysFinal C C n t ∈ ws ∧ own = C ∧ mn = "<init>")) ∧ (∃ k, Jvm.Cond.instantiable C k ∈ ws) ∧ ∀ n' t', (n', t') ∈ olay ws C → n' ≠ n ∨ t' = t := by
  unfold pfR at h
  split at h
  · rename_i C' n' t' q
    split at h
    · rename_i j' ty' q1 q2
      split at h
      · rename_i g
        cases h
        simp only [Bool.and_eq_true, Bool.or_eq_true, beq_iff_eq, List.all_eq_true, bne_iff_ne, ne_eq] at g
        obtain ⟨⟨g1, g2⟩, g3⟩ := g
        obtain ⟨k, hk⟩ := Option.isSome_iff_exists.mp g2
        refine ⟨n', t', q, q1, q2, ?_, ⟨k, rInst_mem hk⟩, fun a b hab => g3 (a, b) hab⟩
        rcases g1 with g1 | ⟨⟨g1, g4⟩, g5⟩
        · exact Or.inl (hasLays_mem g1)
        · exact Or.inr ⟨hasLaysF_mem g1, g4, g5⟩
      · cases h
    · cases h
  · cases h
end Res
end Jvm.Own
namespace Jvm.Own
open Sem ClassFile Op Lib Jvm.Stand Jvm.Free Jvm.LawKit Jvm.RoadKit
/-! OWN 2: the abstract machine -/
abbrev XR := Option (Nat × List Slot × List Value)
def chk {α : Type} (a b : Nat) (x : Option α) : Option α := if a = b then x else none
def isI : Value → Bool | .int _ => true | _ => false
def isL : Value → Bool | .long _ => true | _ => false
def stl (ls : List Slot) (i : Nat) (v : Value) : Option (List Slot) := (storeLocals ls.toArray i v).map Array.toList
def ldV (p : Value → Bool) (nx i : Nat) (ls : List Slot) (st : List Value) : XR :=
  match ls[i]? with
  | some (.val v) => if p v = true then some (nx, ls, v :: st) else none
  | _ => none
def stV (p : Value → Bool) (nx i : Nat) (ls : List Slot) : List Value → XR
  | v :: r => if p v = true then (stl ls i v).map fun l' => (nx, l', r) else none
  | [] => none
def b2 (f : Int32 → Int32 → Int32) (nx : Nat) (ls : List Slot) : List Value → XR
  | .int y :: .int x :: r => some (nx, ls, .int (f x y) :: r)
  | _ => none
def d2 (f : Int32 → Int32 → Int32) (nx : Nat) (ls : List Slot) : List Value → XR
  | .int y :: .int x :: r => if y = 0 then none else some (nx, ls, .int (f x y) :: r)
  | _ => none
def u1 (f : Int32 → Int32) (nx : Nat) (ls : List Slot) : List Value → XR
  | .int x :: r => some (nx, ls, .int (f x) :: r)
  | _ => none
def l2 (f : Int64 → Int64 → Int64) (nx : Nat) (ls : List Slot) : List Value → XR
  | .long y :: .long x :: r => some (nx, ls, .long (f x y) :: r)
  | _ => none
def lsh (f : Int64 → Int32 → Int64) (nx : Nat) (ls : List Slot) : List Value → XR
  | .int y :: .long x :: r => some (nx, ls, .long (f x y) :: r)
  | _ => none
def jmp (pc : Nat) (o : Int) : Option Nat := if 0 ≤ (pc : Int) + o then some ((pc : Int) + o).toNat else none
def br (c : Bool) (pc : Nat) (o : Int) (ls : List Slot) (r : List Value) : XR :=
  if c = true then (jmp pc o).map fun q => (q, ls, r) else some (pc + 3, ls, r)
def sw (pc : Nat) (dflt low high : Int) (offs : Array Int) (ls : List Slot) : List Value → XR
  | .int i :: r => if i.toInt < low ∨ i.toInt > high then (jmp pc dflt).map fun q => (q, ls, r) else
      match offs[(i.toInt - low).toNat]? with
      | some o => (jmp pc o).map fun q => (q, ls, r)
      | none => none
  | _ => none
def xstep (ins : Instr) (len pc : Nat) (ls : List Slot) (st : List Value) : XR :=
  match ins with
  | .aload_n i => chk len 1 (ldV Value.isRef (pc + 1) i.val ls st)
  | .aload i => chk len 2 (ldV Value.isRef (pc + 2) i ls st)
  | .iload_n i => chk len 1 (ldV isI (pc + 1) i.val ls st)
  | .iload i => chk len 2 (ldV isI (pc + 2) i ls st)
  | .lload_n i => chk len 1 (ldV isL (pc + 1) i.val ls st)
  | .lload i => chk len 2 (ldV isL (pc + 2) i ls st)
  | .astore_n i => chk len 1 (stV Value.isRef (pc + 1) i.val ls st)
  | .astore i => chk len 2 (stV Value.isRef (pc + 2) i ls st)
  | .istore_n i => chk len 1 (stV isI (pc + 1) i.val ls st)
  | .istore i => chk len 2 (stV isI (pc + 2) i ls st)
  | .lstore_n i => chk len 1 (stV isL (pc + 1) i.val ls st)
  | .lstore i => chk len 2 (stV isL (pc + 2) i ls st)
  | .iconst i => chk len 1 (some (pc + 1, ls, .int (Int32.ofInt i) :: st))
  | .bipush i => chk len 2 (some (pc + 2, ls, .int (Int8.ofInt i).toInt32 :: st))
  | .sipush i => chk len 3 (some (pc + 3, ls, .int (Int16.ofInt i).toInt32 :: st))
  | .lconst i => chk len 1 (some (pc + 1, ls, .long (Int64.ofNat i) :: st))
  | .iadd => chk len 1 (b2 (fun x y => x + y) (pc + 1) ls st)
  | .isub => chk len 1 (b2 (fun x y => x - y) (pc + 1) ls st)
  | .imul => chk len 1 (b2 (fun x y => x * y) (pc + 1) ls st)
  | .iand => chk len 1 (b2 (fun x y => x &&& y) (pc + 1) ls st)
  | .ior => chk len 1 (b2 (fun x y => x ||| y) (pc + 1) ls st)
  | .ixor => chk len 1 (b2 (fun x y => x ^^^ y) (pc + 1) ls st)
  | .ishl => chk len 1 (b2 (fun x y => x <<< (y &&& 31)) (pc + 1) ls st)
  | .ishr => chk len 1 (b2 (fun x y => x >>> (y &&& 31)) (pc + 1) ls st)
  | .iushr => chk len 1 (b2 XT.ushr (pc + 1) ls st)
  | .idiv => chk len 1 (d2 (fun x y => x / y) (pc + 1) ls st)
  | .irem => chk len 1 (d2 (fun x y => x % y) (pc + 1) ls st)
  | .ineg => chk len 1 (u1 (fun x => -x) (pc + 1) ls st)
  | .i2b => chk len 1 (u1 (fun x => x.toInt8.toInt32) (pc + 1) ls st)
  | .i2c => chk len 1 (u1 (fun x => x.toUInt32.toUInt16.toUInt32.toInt32) (pc + 1) ls st)
  | .ladd => chk len 1 (l2 (fun x y => x + y) (pc + 1) ls st)
  | .lsub => chk len 1 (l2 (fun x y => x - y) (pc + 1) ls st)
  | .lmul => chk len 1 (l2 (fun x y => x * y) (pc + 1) ls st)
  | .land => chk len 1 (l2 (fun x y => x &&& y) (pc + 1) ls st)
  | .lor => chk len 1 (l2 (fun x y => x ||| y) (pc + 1) ls st)
  | .lxor => chk len 1 (l2 (fun x y => x ^^^ y) (pc + 1) ls st)
  | .lshl => chk len 1 (lsh (fun x y => x <<< (y.toInt64 &&& 63)) (pc + 1) ls st)
  | .lshr => chk len 1 (lsh (fun x y => x >>> (y.toInt64 &&& 63)) (pc + 1) ls st)
  | .lushr => chk len 1 (lsh XT.ushrL (pc + 1) ls st)
  | .lneg => chk len 1 (match st with | .long x :: r => some (pc + 1, ls, .long (-x) :: r) | _ => none)
  | .i2l => chk len 1 (match st with | .int x :: r => some (pc + 1, ls, .long x.toInt64 :: r) | _ => none)
  | .l2i => chk len 1 (match st with | .long x :: r => some (pc + 1, ls, .int x.toInt32 :: r) | _ => none)
  | .lcmp => chk len 1 (match st with | .long y :: .long x :: r => some (pc + 1, ls, .int (XT.cmpL x y) :: r) | _ => none)
  | .iinc i cst => chk len 3 (match ls[i]? with | some (.val (.int x)) => (stl ls i (.int (x + Int32.ofInt cst))).map fun l' => (pc + 3, l', st) | _ => none)
  | .dup => chk len 1 (match st with | x :: r => if x.category = 1 then some (pc + 1, ls, x :: x :: r) else none | _ => none)
  | .dup2 => chk len 1 (match st with
      | .long x :: r => some (pc + 1, ls, .long x :: .long x :: r)
      | x :: y :: r => if x.category = 1 ∧ y.category = 1 then some (pc + 1, ls, x :: y :: x :: y :: r) else none
      | _ => none)
  | .pop => chk len 1 (match st with | x :: r => if x.category = 1 then some (pc + 1, ls, r) else none | _ => none)
  | .goto o => chk len 3 ((jmp pc o).map fun q => (q, ls, st))
  | .ifCond cd o => chk len 3 (match st with | .int x :: r => br (ifCond.holds cd x) pc o ls r | _ => none)
  | .if_icmp cd o => chk len 3 (match st with | .int y :: .int x :: r => br (if_icmp.holds cd x y) pc o ls r | _ => none)
  | .tableswitch dflt low high offs => sw pc dflt low high offs ls st
  | _ => none
abbrev HR := Option (Nat × List Value × AHeap)
def putv : FieldType → Value → Option Value
  | .int, .int x => some (.int x)
  | .boolean, .int x => some (.int (nar .boolean x))
  | .byte, .int x => some (.int (nar .byte x))
  | .char, .int x => some (.int (nar .char x))
  | .short, .int x => some (.int (nar .short x))
  | .long, .long x => some (.long x)
  | .array _, .ref a => some (.ref a)
  | _, _ => none
def dflt (q : String × String) : Value := match parseFieldDescriptor q.2 with | some ty => defaultValue ty | none => .null
def hGet (ws : Ws) (own : String) (i pc : Nat) (H : AHeap) : List Value → HR
  | .ref a :: r =>
    match gfR ws own i, H[a]? with
    | some (C, j), some (.object C', vs) => if C = C' then (vs[j]?).map fun v => (pc + 3, v :: r, H) else none
    | _, _ => none
  | _ => none
def hPut (ws : Ws) (k : Nat) (own mn : String) (i pc : Nat) (H : AHeap) : List Value → HR
  | v :: .ref a :: r =>
    match pfR ws own mn i, H[a]? with
    | some (C, j, ty), some (.object C', vs) => if C = C' ∧ k ≤ a ∧ j < vs.length then (putv ty v).map fun v' => (pc + 3, r, H.set a (.object C', vs.set j v')) else none
    | _, _ => none
  | _ => none
def hNew (ws : Ws) (own : String) (i pc : Nat) (H : AHeap) (st : List Value) : HR :=
  match rCls ws own i with
  | some C => if (rInst ws C).isSome = true ∧ hasInit ws C = true then some (pc + 3, .ref H.length :: st, H ++ [(.object C, (olay ws C).map dflt)]) else none
  | none => none
def hNewA (ws : Ws) (aty : ArrayType) (pc : Nat) (H : AHeap) : List Value → HR
  | .int n :: r => if hasArr ws (newarray.typeOf aty) = true ∧ ¬ n < 0 ∧ n.toNatClampNeg * 8 ≤ 536870912 then
      some (pc + 2, .ref H.length :: r, H ++ [(.array (newarray.typeOf aty), List.replicate n.toNatClampNeg (defaultValue (newarray.typeOf aty)))]) else none
  | _ => none
def hLd (ok : FieldType → Bool) (pc : Nat) (H : AHeap) : List Value → HR
  | .int j :: .ref a :: r =>
    match H[a]? with
    | some (.array ty, vs) => if ok ty = true ∧ ¬ j < 0 then (vs[j.toNatClampNeg]?).map fun v => (pc + 1, v :: r, H) else none
    | _ => none
  | _ => none
def hSt (ok : FieldType → Bool) (k pc : Nat) (H : AHeap) : List Value → HR
  | v :: .int j :: .ref a :: r =>
    match H[a]? with
    | some (.array ty, vs) => if ok ty = true ∧ k ≤ a ∧ ¬ j < 0 ∧ j.toNatClampNeg < vs.length then (putv ty v).map fun v' => (pc + 1, r, H.set a (.array ty, vs.set j.toNatClampNeg v')) else none
    | _ => none
  | _ => none
def hLen (pc : Nat) (H : AHeap) : List Value → HR
  | .ref a :: r =>
    match H[a]? with
    | some (.array _, vs) => some (pc + 1, .int vs.length.toInt32 :: r, H)
    | _ => none
  | _ => none
def okT (t u : FieldType) : Bool := decide (u = t)
def okB (u : FieldType) : Bool := decide (u = .byte) || decide (u = .boolean)
def hstep (ws : Ws) (k : Nat) (y : MethodName) (ins : Instr) (len pc : Nat) (st : List Value) (H : AHeap) : HR :=
  match ins with
  | .getfield i => chk len 3 (hGet ws y.cls i pc H st)
  | .putfield i => chk len 3 (hPut ws k y.cls y.name i pc H st)
  | .new i => chk len 3 (hNew ws y.cls i pc H st)
  | .newarray aty => chk len 2 (hNewA ws aty pc H st)
  | .iaload => chk len 1 (hLd (okT .int) pc H st)
  | .caload => chk len 1 (hLd (okT .char) pc H st)
  | .laload => chk len 1 (hLd (okT .long) pc H st)
  | .baload => chk len 1 (hLd okB pc H st)
  | .iastore => chk len 1 (hSt (okT .int) k pc H st)
  | .castore => chk len 1 (hSt (okT .char) k pc H st)
  | .lastore => chk len 1 (hSt (okT .long) k pc H st)
  | .bastore => chk len 1 (hSt okB k pc H st)
  | .arraylength => chk len 1 (hLen pc H st)
  | .ldc i => chk len 2 ((rCon ws y.cls i).map fun v => (pc + 2, .int v :: st, H))
  | .ldc_w i => chk len 3 ((rCon ws y.cls i).map fun v => (pc + 3, .int v :: st, H))
  | .ldc2_w i => chk len 3 ((rConL ws y.cls i).map fun v => (pc + 3, .long v :: st, H))
  | _ => none
def ent : List Value → List Slot
  | [] => []
  | v :: r => if v.category = 2 then .val v :: .second :: ent r else .val v :: ent r
def entry (as : List Value) (mx : Nat) : List Slot := ent as ++ List.replicate (mx - (ent as).length) .unset
def wsum (st : List Value) : Nat := (st.map fun v => v.category).sum
abbrev Dn := List (MethodName × Nat × Nat)
def dnOf (dn : Dn) (y : MethodName) : Option (Nat × Nat) := dn.findSome? fun q => if q.1 = y then some q.2 else none
/-- what a methodref says: callee, its code, max_locals, return, number of parameters, slack for what lies under -/
def cR (ws : Ws) (dn : Dn) (y : MethodName) (i : Nat) : Option (MethodName × ByteArray × Nat × Option FieldType × Nat × Nat) :=
  match rMth ws y.cls i with
  | none => none
  | some y' =>
    match rCode ws y', dnOf dn y', dnOf dn y, parseMethodDescriptor y'.desc with
    | some (b, mx, r), some (f', l'), some (f, l), some sig =>
      if hasInit ws y'.cls = true ∧ Jvm.plainName y'.cls = true ∧ y'.cls ≠ "java/lang/invoke/MethodHandle" ∧ y'.cls ≠ "java/lang/invoke/VarHandle" ∧ f' + 1 ≤ f ∧ mx + 11 + l' ≤ l then
        some (y', b, mx, r, sig.parameters.length, l - (mx + 11 + l')) else none
    | _, _, _, _ => none
def sR (ws : Ws) (dn : Dn) (y : MethodName) (i : Nat) : Option (MethodName × ByteArray × Nat × Option FieldType × Nat × Nat) :=
  match cR ws dn y i with
  | some q => if hasStat ws q.1 = true then some q else none
  | none => none
def nR (ws : Ws) (dn : Dn) (y : MethodName) (i : Nat) : Option (MethodName × ByteArray × Nat × Option FieldType × Nat × Nat) :=
  match cR ws dn y i with
  | some q => if q.1.name = "<init>" ∧ hasIM ws q.1 = true ∧ q.2.2.2.1 = none then some q else none
  | none => none
/-- the first: is it private? -/
def vR (ws : Ws) (dn : Dn) (y : MethodName) (i : Nat) : Option (Bool × MethodName × ByteArray × Nat × Option FieldType × Nat × Nat) :=
  match cR ws dn y i with
  | some q => if hasIM ws q.1 = true then
      (if hasPriv ws q.1 = true ∧ (rInst ws q.1.cls).isSome = true then some (true, q) else if hasDecl ws q.1 = true ∧ hasSel ws q.1 = true then some (false, q) else none) else none
  | none => none
/-- Object.<init>: how many words may lie under it -/
def oR (ws : Ws) (dn : Dn) (y : MethodName) (i : Nat) : Option Nat :=
  match rMth ws y.cls i, rCode ws Lib.objectInit, dnOf dn y with
  | some y', some (b, mx, r), some (f, l) =>
    if y' = Lib.objectInit ∧ hasIM ws Lib.objectInit = true ∧ b.data = #[0xb1] ∧ mx = 1 ∧ r = none ∧ 1 ≤ f ∧ 12 ≤ l then some (l - 12) else none
  | _, _, _ => none
abbrev Call := MethodName × ByteArray × Option FieldType × List Slot × List Value
/-- returns and calls -/
def cstep (ws : Ws) (dn : Dn) (y : MethodName) (ret : Option FieldType) (ins : Instr) (len pc : Nat) (ls : List Slot) (st : List Value) (H : AHeap) : Option (Option Value ⊕ (Nat × List Slot × List Value × AHeap) ⊕ Call) :=
  match ins with
  | .ireturn => chk len 1 (match st, ret with
      | .int z :: _, some t => if t = .int ∨ t = .boolean ∨ t = .byte ∨ t = .char ∨ t = .short then some (.inl (some (.int (nar t z)))) else none
      | _, _ => none)
  | .lreturn => chk len 1 (match st, ret with
      | [.long z], some .long => some (.inl (some (.long z)))
      | _, _ => none)
  | .return_ => chk len 1 (match st, ret with
      | [], none => some (.inl none)
      | _, _ => none)
  | .invokestatic i => chk len 3 (match sR ws dn y i with
      | some (y', b, mx, r, na, sl) =>
        if na ≤ st.length ∧ wsum (st.drop na) ≤ sl ∧ (ent (st.take na).reverse).length ≤ mx then
          some (.inr (.inr (y', b, r, entry (st.take na).reverse mx, st.drop na)))
        else none
      | none => none)
  | .invokespecial i => chk len 3 (match oR ws dn y i with
      | some sl => (match st with
          | .ref _ :: r => if wsum r ≤ sl then some (.inr (.inl (pc + 3, ls, r, H))) else none
          | _ => none)
      | none => match nR ws dn y i with
        | some (y', b, mx, r, na, sl) =>
          (match st.drop na with
          | .ref a :: rest =>
            if wsum rest ≤ sl ∧ (ent (.ref a :: (st.take na).reverse)).length ≤ mx ∧ na ≤ st.length then
              some (.inr (.inr (y', b, r, entry (.ref a :: (st.take na).reverse) mx, rest)))
            else none
          | _ => none)
        | none => none)
  | .invokevirtual i => chk len 3 (match vR ws dn y i with
      | some (pv, y', b, mx, r, na, sl) =>
        (match st.drop na with
        | .ref a :: rest =>
          (match H[a]? with
          | some (.object C, _) =>
            if (pv = true ∨ C = y'.cls) ∧ wsum rest ≤ sl ∧ (ent (.ref a :: (st.take na).reverse)).length ≤ mx ∧ na ≤ st.length then
              some (.inr (.inr (y', b, r, entry (.ref a :: (st.take na).reverse) mx, rest)))
            else none
          | _ => none)
        | _ => none)
      | none => none)
  | _ => none
/-- what the machine does next: it returns, it steps, it calls -/
def act (ws : Ws) (dn : Dn) (k : Nat) (y : MethodName) (bytes : ByteArray) (ret : Option FieldType) (pc : Nat) (ls : List Slot) (st : List Value) (H : AHeap) : Option (Option Value ⊕ (Nat × List Slot × List Value × AHeap) ⊕ Call) :=
  match decode bytes pc with
  | .error _ => none
  | .ok (ins, len) =>
    match xstep ins len pc ls st with
    | some q => some (.inr (.inl (q.1, q.2.1, q.2.2, H)))
    | none => match hstep ws k y ins len pc st H with
      | some q => some (.inr (.inl (q.1, ls, q.2.1, q.2.2)))
      | none => cstep ws dn y ret ins len pc ls st H
def run (ws : Ws) (dn : Dn) (k : Nat) : Nat → MethodName → ByteArray → Option FieldType → Nat → List Slot → List Value → AHeap → Option (Option Value × AHeap)
  | 0, _, _, _, _, _, _, _ => none
  | n + 1, y, bytes, ret, pc, ls, st, H =>
    match act ws dn k y bytes ret pc ls st H with
    | none => none
    | some (.inl v) => some (v, H)
    | some (.inr (.inl (pc', ls', st', H'))) => run ws dn k n y bytes ret pc' ls' st' H'
    | some (.inr (.inr (y', b, r, en, rest))) =>
      match run ws dn k n y' b r 0 en [] H with
      | some (v, H1) => run ws dn k n y bytes ret (pc + 3) ls (v.toList ++ rest) H1
      | none => none
end Jvm.Own
namespace Jvm.Own
open Sem ClassFile Op Lib Jvm.Stand Jvm.Free Jvm.LawKit Jvm.RoadKit
/-! OWN 3: the abstract machine's plain steps are the machine's -/
def ren (f : Nat → Nat) : Value → Value
  | .ref a => .ref (f a)
  | v => v
def renS (f : Nat → Nat) : Slot → Slot
  | .val v => .val (ren f v)
  | s => s
abbrev fr (f : Nat → Nat) (m : MethodId) (pc : Nat) (ls : List Slot) (st : List Value) : JFrame := mkF m pc (ls.map (renS f)).toArray (st.map (ren f))
theorem ren_cat (f : Nat → Nat) (v : Value) : (ren f v).category = v.category := by cases v <;> rfl
theorem ren_isRef (f : Nat → Nat) (v : Value) : (ren f v).isRef = v.isRef := by cases v <;> rfl
theorem isI_int {v : Value} (h : isI v = true) : ∃ x, v = .int x := by cases v <;> first | exact ⟨_, rfl⟩ | cases h
theorem isL_long {v : Value} (h : isL v = true) : ∃ x, v = .long x := by cases v <;> first | exact ⟨_, rfl⟩ | cases h
theorem chk_some {α : Type} {a b : Nat} {x : Option α} {r : α} (h : chk a b x = some r) : a = b ∧ x = some r := by
  unfold chk at h
  split at h
  · exact ⟨by assumption, h⟩
  · cases h
theorem loc_get {f : Nat → Nat} {ls : List Slot} {i : Nat} {s : Slot} (h : ls[i]? = some s) : ((ls.map (renS f)).toArray)[i]? = some (renS f s) := by
  rw [List.getElem?_toArray, List.getElem?_map, h]; rfl
theorem setAt_ren (f : Nat → Nat) (l : Array Slot) (i : Nat) (x : Slot) : setAt (l.map (renS f)) i (renS f x) = (setAt l i x).map fun a => a.map (renS f) := by
  unfold setAt
  rw [Array.size_map]
  split
  · rw [Option.map_some, Array.map_setIfInBounds]
  · rfl
theorem storeSelf_ren (f : Nat → Nat) (l : Array Slot) (i : Nat) (v : Value) : storeSelf (l.map (renS f)) i (ren f v) = (storeSelf l i v).map fun a => a.map (renS f) := by
  have h0 : setAt (l.map (renS f)) i (.val (ren f v)) = _ := setAt_ren f l i (.val v)
  simp only [storeSelf, h0, ren_cat]
  cases setAt l i (.val v) with
  | none => rfl
  | some l1 =>
    simp only [Option.map_some, Option.bind_eq_bind, Option.bind_some, bind_pure_comp]
    split
    · rw [Array.getElem?_map]
      cases l1[i + 1]? with
      | none => rfl
      | some s =>
        simp only [Option.map_some, Option.bind_some]
        cases s with
        | unset => exact setAt_ren f l1 (i + 1) .second
        | second => exact setAt_ren f l1 (i + 1) .second
        | val w =>
          simp only [renS, ren_cat]
          split
          · have h1 : setAt (l1.map (renS f)) (i + 2) .unset = _ := setAt_ren f l1 (i + 2) .unset
            rw [h1]
            cases setAt l1 (i + 2) .unset with
            | none => rfl
            | some l2 => exact setAt_ren f l2 (i + 1) .second
          · exact setAt_ren f l1 (i + 1) .second
    · rfl
theorem storeLocals_ren (f : Nat → Nat) (l : Array Slot) (i : Nat) (v : Value) : storeLocals (l.map (renS f)) i (ren f v) = (storeLocals l i v).map fun a => a.map (renS f) := by
  simp only [storeLocals, Array.getElem?_map]
  cases l[i]? with
  | none => rfl
  | some s =>
    simp only [Option.map_some, Option.bind_eq_bind, Option.bind_some]
    cases s with
    | unset => exact storeSelf_ren f l i v
    | second =>
      have h1 : setAt (l.map (renS f)) (i - 1) .unset = _ := setAt_ren f l (i - 1) .unset
      simp only [renS, h1]
      cases setAt l (i - 1) .unset with
      | none => rfl
      | some l2 => exact storeSelf_ren f l2 i v
    | val w =>
      simp only [renS, ren_cat]
      split
      · have h1 : setAt (l.map (renS f)) (i + 1) .unset = _ := setAt_ren f l (i + 1) .unset
        rw [h1]
        cases setAt l (i + 1) .unset with
        | none => rfl
        | some l2 => exact storeSelf_ren f l2 i v
      · exact storeSelf_ren f l i v
theorem stl_ren {f : Nat → Nat} {ls l' : List Slot} {i : Nat} {v : Value} (h : stl ls i v = some l') : storeLocals (ls.map (renS f)).toArray i (ren f v) = some (l'.map (renS f)).toArray := by
  unfold stl at h
  obtain ⟨a, ha, rfl⟩ := Option.map_eq_some_iff.mp h
  have := storeLocals_ren f ls.toArray i v
  rw [ha] at this
  rw [← List.map_toArray, this]
  simp [← Array.toList_inj]
theorem setAt_size {l l' : Array Slot} {i : Nat} {x : Slot} (h : setAt l i x = some l') : l'.size = l.size := by
  unfold setAt at h
  split at h
  · cases h; simp
  · cases h
theorem storeSelf_size {l l' : Array Slot} {i : Nat} {v : Value} (h : storeSelf l i v = some l') : l'.size = l.size := by
  simp only [storeSelf, Option.bind_eq_bind, Option.bind_eq_some_iff] at h
  obtain ⟨l1, h1, h⟩ := h
  have e1 := setAt_size h1
  split at h
  · obtain ⟨s, -, h⟩ := Option.bind_eq_some_iff.mp h
    split at h
    · split at h
      · obtain ⟨l2, h2, h⟩ := Option.bind_eq_some_iff.mp h
        rw [setAt_size h, setAt_size h2, e1]
      · rw [setAt_size h, e1]
    · rw [setAt_size h, e1]
  · cases h; exact e1
theorem storeLocals_size {l l' : Array Slot} {i : Nat} {v : Value} (h : storeLocals l i v = some l') : l'.size = l.size := by
  simp only [storeLocals, Option.bind_eq_bind, Option.bind_eq_some_iff] at h
  obtain ⟨s, -, h⟩ := h
  split at h
  · obtain ⟨l2, h2, h⟩ := Option.bind_eq_some_iff.mp h
    rw [storeSelf_size h, setAt_size h2]
  · split at h
    · obtain ⟨l2, h2, h⟩ := Option.bind_eq_some_iff.mp h
      rw [storeSelf_size h, setAt_size h2]
    · exact storeSelf_size h
  · exact storeSelf_size h
theorem stl_size {ls l' : List Slot} {i : Nat} {v : Value} (h : stl ls i v = some l') : l'.length = ls.length := by
  unfold stl at h
  obtain ⟨a, ha, rfl⟩ := Option.map_eq_some_iff.mp h
  have := storeLocals_size ha
  simpa using this
theorem ldV_some {p : Value → Bool} {nx i : Nat} {ls : List Slot} {st : List Value} {q : Nat × List Slot × List Value} (h : ldV p nx i ls st = some q) : ∃ v, ls[i]? = some (.val v) ∧ p v = true ∧ q = (nx, ls, v :: st) := by
  unfold ldV at h
  split at h
  · rename_i v hv
    split at h
    · cases h; exact ⟨v, hv, by assumption, rfl⟩
    · cases h
  · cases h
theorem stV_some {p : Value → Bool} {nx i : Nat} {ls : List Slot} {st : List Value} {q : Nat × List Slot × List Value} (h : stV p nx i ls st = some q) : ∃ v r l', st = v :: r ∧ p v = true ∧ stl ls i v = some l' ∧ q = (nx, l', r) := by
  unfold stV at h
  split at h
  · split at h
    · obtain ⟨l', h1, h2⟩ := Option.map_eq_some_iff.mp h
      exact ⟨_, _, l', rfl, by assumption, h1, h2.symm⟩
    · cases h
  · cases h
theorem b2_some {f : Int32 → Int32 → Int32} {nx : Nat} {ls : List Slot} {st : List Value} {q : Nat × List Slot × List Value} (h : b2 f nx ls st = some q) : ∃ x y r, st = .int y :: .int x :: r ∧ q = (nx, ls, .int (f x y) :: r) := by
  unfold b2 at h
  split at h
  · cases h; exact ⟨_, _, _, rfl, rfl⟩
  · cases h
theorem d2_some {f : Int32 → Int32 → Int32} {nx : Nat} {ls : List Slot} {st : List Value} {q : Nat × List Slot × List Value} (h : d2 f nx ls st = some q) : ∃ x y r, st = .int y :: .int x :: r ∧ y ≠ 0 ∧ q = (nx, ls, .int (f x y) :: r) := by
  unfold d2 at h
  split at h
  · split at h
    · cases h
    · cases h; exact ⟨_, _, _, rfl, by assumption, rfl⟩
  · cases h
theorem u1_some {f : Int32 → Int32} {nx : Nat} {ls : List Slot} {st : List Value} {q : Nat × List Slot × List Value} (h : u1 f nx ls st = some q) : ∃ x r, st = .int x :: r ∧ q = (nx, ls, .int (f x) :: r) := by
  unfold u1 at h
  split at h
  · cases h; exact ⟨_, _, rfl, rfl⟩
  · cases h
theorem l2_some {f : Int64 → Int64 → Int64} {nx : Nat} {ls : List Slot} {st : List Value} {q : Nat × List Slot × List Value} (h : l2 f nx ls st = some q) : ∃ x y r, st = .long y :: .long x :: r ∧ q = (nx, ls, .long (f x y) :: r) := by
  unfold l2 at h
  split at h
  · cases h; exact ⟨_, _, _, rfl, rfl⟩
  · cases h
theorem lsh_some {f : Int64 → Int32 → Int64} {nx : Nat} {ls : List Slot} {st : List Value} {q : Nat × List Slot × List Value} (h : lsh f nx ls st = some q) : ∃ x y r, st = .int y :: .long x :: r ∧ q = (nx, ls, .long (f x y) :: r) := by
  unfold lsh at h
  split at h
  · cases h; exact ⟨_, _, _, rfl, rfl⟩
  · cases h
theorem jmp_some {pc q : Nat} {o : Int} (h : jmp pc o = some q) : 0 ≤ (pc : Int) + o ∧ ((pc : Int) + o).toNat = q := by
  unfold jmp at h
  split at h
  · cases h; exact ⟨by assumption, rfl⟩
  · cases h
theorem br_some {c : Bool} {pc : Nat} {o : Int} {ls : List Slot} {r : List Value} {q : Nat × List Slot × List Value} (h : br c pc o ls r = some q) : (c = true ∧ ∃ t, 0 ≤ (pc : Int) + o ∧ ((pc : Int) + o).toNat = t ∧ q = (t, ls, r)) ∨ (c = false ∧ q = (pc + 3, ls, r)) := by
  unfold br at h
  split at h
  · obtain ⟨t, h1, h2⟩ := Option.map_eq_some_iff.mp h
    obtain ⟨h3, h4⟩ := jmp_some h1
    exact Or.inl ⟨by assumption, t, h3, h4, h2.symm⟩
  · rename_i hc; cases h; exact Or.inr ⟨by simpa using hc, rfl⟩
section X
variable {tb : Tables} [Ours tb] {e : Env} {below : List Frame} {T target : State} {m : MethodId} {c : Code}
set_option maxHeartbeats 4000000 in
theorem xstep_sound (h : At T m c below) (hx : tb.exec = Jvm.exec) (f : Nat → Nat) {ins : Instr} {len pc : Nat} {ls : List Slot} {st : List Value} {q : Nat × List Slot × List Value}
    (hd : decode c.code pc = .ok (ins, len)) (hs : xstep ins len pc ls st = some q) (hr : Steps tb e below (T.setTop (fr f m q.1 q.2.1 q.2.2)) target) : Steps tb e below (T.setTop (fr f m pc ls st)) target := by
  unfold xstep at hs
  split at hs
  · obtain ⟨rfl, hs⟩ := chk_some hs; obtain ⟨v, h1, h2, rfl⟩ := ldV_some hs
    exact XS.aloadN h hx rfl hd (loc_get h1) (by rw [ren_isRef]; exact h2) hr
  · obtain ⟨rfl, hs⟩ := chk_some hs; obtain ⟨v, h1, h2, rfl⟩ := ldV_some hs
    exact XS.aload h hx rfl hd (loc_get h1) (by rw [ren_isRef]; exact h2) hr
  · obtain ⟨rfl, hs⟩ := chk_some hs; obtain ⟨v, h1, h2, rfl⟩ := ldV_some hs; obtain ⟨x, rfl⟩ := isI_int h2
    exact XS.iloadN h hx rfl hd (loc_get (f := f) h1) hr
  · obtain ⟨rfl, hs⟩ := chk_some hs; obtain ⟨v, h1, h2, rfl⟩ := ldV_some hs; obtain ⟨x, rfl⟩ := isI_int h2
    exact XS.iload h hx rfl hd (loc_get (f := f) h1) hr
  · obtain ⟨rfl, hs⟩ := chk_some hs; obtain ⟨v, h1, h2, rfl⟩ := ldV_some hs; obtain ⟨x, rfl⟩ := isL_long h2
    exact XT.lloadN h hx rfl hd (loc_get (f := f) h1) hr
  · obtain ⟨rfl, hs⟩ := chk_some hs; obtain ⟨v, h1, h2, rfl⟩ := ldV_some hs; obtain ⟨x, rfl⟩ := isL_long h2
    exact XT.lload h hx rfl hd (loc_get (f := f) h1) hr
  · obtain ⟨rfl, hs⟩ := chk_some hs; obtain ⟨v, r, l', rfl, h2, h3, rfl⟩ := stV_some hs
    exact XS.astoreN h hx rfl hd rfl (by rw [ren_isRef]; exact h2) (stl_ren h3) hr
  · obtain ⟨rfl, hs⟩ := chk_some hs; obtain ⟨v, r, l', rfl, h2, h3, rfl⟩ := stV_some hs
    exact XS.astore h hx rfl hd rfl (by rw [ren_isRef]; exact h2) (stl_ren h3) hr
  · obtain ⟨rfl, hs⟩ := chk_some hs; obtain ⟨v, r, l', rfl, h2, h3, rfl⟩ := stV_some hs; obtain ⟨x, rfl⟩ := isI_int h2
    exact XS.istoreN h hx rfl hd rfl (stl_ren (f := f) h3) hr
  · obtain ⟨rfl, hs⟩ := chk_some hs; obtain ⟨v, r, l', rfl, h2, h3, rfl⟩ := stV_some hs; obtain ⟨x, rfl⟩ := isI_int h2
    exact XS.istore h hx rfl hd rfl (stl_ren (f := f) h3) hr
  · obtain ⟨rfl, hs⟩ := chk_some hs; obtain ⟨v, r, l', rfl, h2, h3, rfl⟩ := stV_some hs; obtain ⟨x, rfl⟩ := isL_long h2
    exact XT.lstoreN h hx rfl hd rfl (stl_ren (f := f) h3) hr
  · obtain ⟨rfl, hs⟩ := chk_some hs; obtain ⟨v, r, l', rfl, h2, h3, rfl⟩ := stV_some hs; obtain ⟨x, rfl⟩ := isL_long h2
    exact XT.lstore h hx rfl hd rfl (stl_ren (f := f) h3) hr
  · obtain ⟨rfl, hs⟩ := chk_some hs; cases hs
    exact XS.iconst h hx rfl hd hr
  · obtain ⟨rfl, hs⟩ := chk_some hs; cases hs
    exact XS.bipush h hx rfl hd hr
  · obtain ⟨rfl, hs⟩ := chk_some hs; cases hs
    exact XS.sipush h hx rfl hd hr
  · obtain ⟨rfl, hs⟩ := chk_some hs; cases hs
    exact XT.lconst h hx rfl hd hr
  · obtain ⟨rfl, hs⟩ := chk_some hs; obtain ⟨x, y, r, rfl, rfl⟩ := b2_some hs
    exact XS.iadd h hx rfl hd rfl hr
  · obtain ⟨rfl, hs⟩ := chk_some hs; obtain ⟨x, y, r, rfl, rfl⟩ := b2_some hs
    exact XS.isub h hx rfl hd rfl hr
  · obtain ⟨rfl, hs⟩ := chk_some hs; obtain ⟨x, y, r, rfl, rfl⟩ := b2_some hs
    exact XS.imul h hx rfl hd rfl hr
  · obtain ⟨rfl, hs⟩ := chk_some hs; obtain ⟨x, y, r, rfl, rfl⟩ := b2_some hs
    exact XS.iand h hx rfl hd rfl hr
  · obtain ⟨rfl, hs⟩ := chk_some hs; obtain ⟨x, y, r, rfl, rfl⟩ := b2_some hs
    exact XT.ior h hx rfl hd rfl hr
  · obtain ⟨rfl, hs⟩ := chk_some hs; obtain ⟨x, y, r, rfl, rfl⟩ := b2_some hs
    exact XT.ixor h hx rfl hd rfl hr
  · obtain ⟨rfl, hs⟩ := chk_some hs; obtain ⟨x, y, r, rfl, rfl⟩ := b2_some hs
    exact XT.ishl h hx rfl hd rfl hr
  · obtain ⟨rfl, hs⟩ := chk_some hs; obtain ⟨x, y, r, rfl, rfl⟩ := b2_some hs
    exact XT.ishr h hx rfl hd rfl hr
  · obtain ⟨rfl, hs⟩ := chk_some hs; obtain ⟨x, y, r, rfl, rfl⟩ := b2_some hs
    exact XT.iushr h hx rfl hd rfl hr
  · obtain ⟨rfl, hs⟩ := chk_some hs; obtain ⟨x, y, r, rfl, h2, rfl⟩ := d2_some hs
    exact XS.idiv h hx rfl hd rfl h2 hr
  · obtain ⟨rfl, hs⟩ := chk_some hs; obtain ⟨x, y, r, rfl, h2, rfl⟩ := d2_some hs
    refine XS.irem h hx rfl hd rfl h2 ?_
    have q : x - x / y * y = x % y := irem_eq_mod x y
    rw [q]; exact hr
  · obtain ⟨rfl, hs⟩ := chk_some hs; obtain ⟨x, r, rfl, rfl⟩ := u1_some hs
    exact XS.ineg h hx rfl hd rfl hr
  · obtain ⟨rfl, hs⟩ := chk_some hs; obtain ⟨x, r, rfl, rfl⟩ := u1_some hs
    exact XT.i2b h hx rfl hd rfl hr
  · obtain ⟨rfl, hs⟩ := chk_some hs; obtain ⟨x, r, rfl, rfl⟩ := u1_some hs
    exact XT.i2c h hx rfl hd rfl hr
  · obtain ⟨rfl, hs⟩ := chk_some hs; obtain ⟨x, y, r, rfl, rfl⟩ := l2_some hs
    exact XT.ladd h hx rfl hd rfl hr
  · obtain ⟨rfl, hs⟩ := chk_some hs; obtain ⟨x, y, r, rfl, rfl⟩ := l2_some hs
    exact XT.lsub h hx rfl hd rfl hr
  · obtain ⟨rfl, hs⟩ := chk_some hs; obtain ⟨x, y, r, rfl, rfl⟩ := l2_some hs
    exact XT.lmul h hx rfl hd rfl hr
  · obtain ⟨rfl, hs⟩ := chk_some hs; obtain ⟨x, y, r, rfl, rfl⟩ := l2_some hs
    exact XT.land h hx rfl hd rfl hr
  · obtain ⟨rfl, hs⟩ := chk_some hs; obtain ⟨x, y, r, rfl, rfl⟩ := l2_some hs
    exact XT.lor h hx rfl hd rfl hr
  · obtain ⟨rfl, hs⟩ := chk_some hs; obtain ⟨x, y, r, rfl, rfl⟩ := l2_some hs
    exact XT.lxor h hx rfl hd rfl hr
  · obtain ⟨rfl, hs⟩ := chk_some hs; obtain ⟨x, y, r, rfl, rfl⟩ := lsh_some hs
    exact XT.lshl h hx rfl hd rfl hr
  · obtain ⟨rfl, hs⟩ := chk_some hs; obtain ⟨x, y, r, rfl, rfl⟩ := lsh_some hs
    exact XT.lshr h hx rfl hd rfl hr
  · obtain ⟨rfl, hs⟩ := chk_some hs; obtain ⟨x, y, r, rfl, rfl⟩ := lsh_some hs
    exact XT.lushr h hx rfl hd rfl hr
  · obtain ⟨rfl, hs⟩ := chk_some hs
    split at hs
    · cases hs; exact XT.lneg h hx rfl hd rfl hr
    · cases hs
  · obtain ⟨rfl, hs⟩ := chk_some hs
    split at hs
    · cases hs; exact XT.i2l h hx rfl hd rfl hr
    · cases hs
  · obtain ⟨rfl, hs⟩ := chk_some hs
    split at hs
    · cases hs; exact XT.l2i h hx rfl hd rfl hr
    · cases hs
  · obtain ⟨rfl, hs⟩ := chk_some hs
    split at hs
    · cases hs; exact XT.lcmp h hx rfl hd rfl hr
    · cases hs
  · obtain ⟨rfl, hs⟩ := chk_some hs
    split at hs
    · rename_i x h1
      obtain ⟨l', h2, rfl⟩ := Option.map_eq_some_iff.mp hs
      exact XS.iinc h hx rfl hd (loc_get (f := f) h1) (stl_ren (f := f) h2) hr
    · cases hs
  · obtain ⟨rfl, hs⟩ := chk_some hs
    split at hs
    · split at hs
      · rename_i hc; cases hs; exact XS.dup h hx rfl hd rfl (by rw [ren_cat]; exact hc) hr
      · cases hs
    · cases hs
  · obtain ⟨rfl, hs⟩ := chk_some hs
    split at hs
    · cases hs; exact XT.dup2L h hx rfl hd rfl hr
    · split at hs
      · rename_i hc; cases hs; exact XT.dup2 h hx rfl hd rfl (by rw [ren_cat]; exact hc.1) (by rw [ren_cat]; exact hc.2) hr
      · cases hs
    · cases hs
  · obtain ⟨rfl, hs⟩ := chk_some hs
    split at hs
    · split at hs
      · rename_i hc; cases hs; exact XT.pop h hx rfl hd rfl (by rw [ren_cat]; exact hc) hr
      · cases hs
    · cases hs
  · obtain ⟨rfl, hs⟩ := chk_some hs
    obtain ⟨t, h1, rfl⟩ := Option.map_eq_some_iff.mp hs
    obtain ⟨h2, h3⟩ := jmp_some h1
    exact XS.goto h hx rfl rfl hd h2 h3 hr
  · obtain ⟨rfl, hs⟩ := chk_some hs
    split at hs
    · rcases br_some hs with ⟨hc, t, h1, h2, rfl⟩ | ⟨hc, rfl⟩
      · exact XS.ifYes h hx rfl rfl hd rfl hc h1 h2 hr
      · exact XS.ifNo h hx rfl hd rfl hc hr
    · cases hs
  · obtain ⟨rfl, hs⟩ := chk_some hs
    split at hs
    · rcases br_some hs with ⟨hc, t, h1, h2, rfl⟩ | ⟨hc, rfl⟩
      · exact XS.icmpYes h hx rfl rfl hd rfl hc h1 h2 hr
      · exact XS.icmpNo h hx rfl hd rfl hc hr
    · cases hs
  · unfold sw at hs
    split at hs
    · split at hs
      · rename_i hc
        obtain ⟨t, h1, rfl⟩ := Option.map_eq_some_iff.mp hs
        obtain ⟨h2, h3⟩ := jmp_some h1
        exact XS.tswOut h hx rfl rfl hd rfl hc h2 h3 hr
      · rename_i hc
        split at hs
        · rename_i o ho
          obtain ⟨t, h1, rfl⟩ := Option.map_eq_some_iff.mp hs
          obtain ⟨h2, h3⟩ := jmp_some h1
          exact XS.tswIn h hx rfl rfl hd rfl hc ho h2 h3 hr
        · cases hs
    · cases hs
  · cases hs
end X
theorem xstep_size {ins : Instr} {len pc : Nat} {ls : List Slot} {st : List Value} {q : Nat × List Slot × List Value} (hs : xstep ins len pc ls st = some q) : q.2.1.length = ls.length := by
  unfold xstep at hs
  split at hs
  all_goals first
    | (obtain ⟨rfl, hs⟩ := chk_some hs; obtain ⟨v, h1, h2, rfl⟩ := ldV_some hs; rfl)
    | (obtain ⟨rfl, hs⟩ := chk_some hs; obtain ⟨v, r, l', rfl, h2, h3, rfl⟩ := stV_some hs; exact stl_size h3)
    | (obtain ⟨rfl, hs⟩ := chk_some hs; cases hs; rfl)
    | (obtain ⟨rfl, hs⟩ := chk_some hs; obtain ⟨x, y, r, rfl, rfl⟩ := b2_some hs; rfl)
    | (obtain ⟨rfl, hs⟩ := chk_some hs; obtain ⟨x, y, r, rfl, h2, rfl⟩ := d2_some hs; rfl)
    | (obtain ⟨rfl, hs⟩ := chk_some hs; obtain ⟨x, r, rfl, rfl⟩ := u1_some hs; rfl)
    | (obtain ⟨rfl, hs⟩ := chk_some hs; obtain ⟨x, y, r, rfl, rfl⟩ := l2_some hs; rfl)
    | (obtain ⟨rfl, hs⟩ := chk_some hs; obtain ⟨x, y, r, rfl, rfl⟩ := lsh_some hs; rfl)
    | (obtain ⟨rfl, hs⟩ := chk_some hs; split at hs <;> first | (cases hs; rfl) | (cases hs; done))
    | (obtain ⟨rfl, hs⟩ := chk_some hs; split at hs <;> first | (obtain ⟨l', h2, rfl⟩ := Option.map_eq_some_iff.mp hs; exact stl_size h2) | (cases hs; done))
    | (obtain ⟨rfl, hs⟩ := chk_some hs; split at hs <;> first | (split at hs <;> first | (cases hs; rfl) | (cases hs; done)) | (cases hs; rfl) | (cases hs; done))
    | (obtain ⟨rfl, hs⟩ := chk_some hs; obtain ⟨t, h1, rfl⟩ := Option.map_eq_some_iff.mp hs; rfl)
    | (obtain ⟨rfl, hs⟩ := chk_some hs; split at hs <;> first | (rcases br_some hs with ⟨hc, t, h1, h2, rfl⟩ | ⟨hc, rfl⟩ <;> rfl) | (cases hs; done))
    | (unfold sw at hs; split at hs <;> first | (cases hs; done) | (split at hs <;> first | (obtain ⟨t, h1, rfl⟩ := Option.map_eq_some_iff.mp hs; rfl) | (split at hs <;> first | (obtain ⟨t, h1, rfl⟩ := Option.map_eq_some_iff.mp hs; rfl) | (cases hs; done))))
    | (cases hs; done)
end Jvm.Own
namespace Jvm.Own
open Sem ClassFile Op Lib Jvm.Stand Jvm.Free Jvm.LawKit Jvm.RoadKit
/-! OWN 4: the heap's steps -/
def adr (k sa n0 i : Nat) : Nat := if i < k then sa else n0 + (i - k)
def SimO (Z : State) (ws : Ws) (f : Nat → Nat) (h : Heap) (a : Addr) : FieldType × List Value → Prop
  | (.object C, vs) => Exa Z h a C ∧ ∀ n t j, fidx ws C n t = some j → ∃ v, vs[j]? = some v ∧ Fld Z h a C n t (ren f v)
  | (.array ty, vs) => ∃ c : Cell, Arr Z h a c ty ∧ c.slots = (vs.map (ren f)).toArray
  | _ => False
def Sim (Z : State) (ws : Ws) (k sa n0 : Nat) (H : AHeap) (h : Heap) : Prop :=
  h.size = n0 + (H.length - k) ∧ k ≤ H.length ∧ k ≤ 1 ∧ (1 ≤ k → sa < n0) ∧ ∀ i o, H[i]? = some o → SimO Z ws (adr k sa n0) h (adr k sa n0 i) o
def cost (ws : Ws) : FieldType × List Value → Nat
  | (.object C, _) => (rInst ws C).getD 0
  | (_, vs) => vs.length
def tot (ws : Ws) (H : AHeap) : Nat := (H.map (cost ws)).sum
theorem adr_inj {k sa n0 i j : Nat} (hk : k ≤ 1) (hs : 1 ≤ k → sa < n0) (e : adr k sa n0 i = adr k sa n0 j) : i = j := by
  unfold adr at e; split at e <;> split at e <;> omega
theorem adr_ge {k sa n0 a : Nat} (h : k ≤ a) : n0 ≤ adr k sa n0 a := by
  unfold adr; rw [if_neg (by omega)]; omega
theorem tot_app (ws : Ws) (H : AHeap) (o : FieldType × List Value) : tot ws (H ++ [o]) = tot ws H + cost ws o := by simp [tot]
theorem tot_set {ws : Ws} : ∀ {H : AHeap} {a : Nat} {o o' : FieldType × List Value}, H[a]? = some o → cost ws o' = cost ws o → tot ws (H.set a o') = tot ws H
  | [], _, _, _, h, _ => by cases h
  | x :: r, 0, o, o', h, e => by
    simp only [List.getElem?_cons_zero, Option.some.injEq] at h; subst h
    simp [tot, e]
  | x :: r, a + 1, o, o', h, e => by
    have := tot_set (ws := ws) (H := r) (a := a) (o := o) (o' := o') (by simpa using h) e
    simp only [tot, List.set_cons_succ, List.map_cons, List.sum_cons] at this ⊢
    rw [this]
theorem ren_dflt (f : Nat → Nat) (ty : FieldType) : ren f (defaultValue ty) = defaultValue ty := by cases ty <;> rfl
section Facts
variable {Z : State} {ws : Ws} {f : Nat → Nat} {h h' : Heap} {a b : Addr} {o : FieldType × List Value} {sl : Nat} {v : Value}
theorem SimO.ext (E : Ext h h') (S : SimO Z ws f h a o) : SimO Z ws f h' a o := by
  unfold SimO at S ⊢
  split at S
  · exact ⟨S.1.ext E, fun n t j q => by obtain ⟨v, h1, h2⟩ := S.2 n t j q; exact ⟨v, h1, h2.ext E⟩⟩
  · obtain ⟨c, h1, h2⟩ := S; exact ⟨c, h1.ext E, h2⟩
  · exact S.elim
theorem SimO.other (W : Wr h h' b sl v) (ne : a ≠ b) (S : SimO Z ws f h a o) : SimO Z ws f h' a o := by
  unfold SimO at S ⊢
  split at S
  · exact ⟨S.1.wr W, fun n t j q => by obtain ⟨v, h1, h2⟩ := S.2 n t j q; exact ⟨v, h1, h2.other W (Or.inl ne)⟩⟩
  · obtain ⟨c, h1, h2⟩ := S; exact ⟨c, h1.other W ne, h2⟩
  · exact S.elim
theorem Sim.push {k sa n0 : Nat} {H : AHeap} (S : Sim Z ws k sa n0 H h) (E : Ext h h') (hz : h'.size = h.size + 1) (O : SimO Z ws (adr k sa n0) h' h.size o) : Sim Z ws k sa n0 (H ++ [o]) h' := by
  obtain ⟨h1, h2, h3, h4, h5⟩ := S
  refine ⟨by rw [hz, h1, List.length_append, List.length_singleton]; omega, by rw [List.length_append]; omega, h3, h4, fun i o' q => ?_⟩
  rcases Nat.lt_trichotomy i H.length with g | g | g
  · rw [List.getElem?_append_left g] at q; exact (h5 i o' q).ext E
  · subst g
    rw [List.getElem?_append_right (Nat.le_refl _), Nat.sub_self] at q
    cases q
    have e : adr k sa n0 H.length = h.size := by unfold adr; rw [if_neg (by omega), h1]
    rw [e]; exact O
  · rw [List.getElem?_eq_none (by simp; omega)] at q; cases q
theorem Sim.next {k sa n0 : Nat} {H : AHeap} (S : Sim Z ws k sa n0 H h) : h.size = adr k sa n0 H.length := by
  obtain ⟨h1, h2, -⟩ := S
  unfold adr; rw [if_neg (by omega), h1]
theorem Wr.upd {k sa n0 i : Nat} {H : AHeap} {o' : FieldType × List Value} (S : Sim Z ws k sa n0 H h) (W : Wr h h' (adr k sa n0 i) sl v) (O : SimO Z ws (adr k sa n0) h' (adr k sa n0 i) o') : Sim Z ws k sa n0 (H.set i o') h' := by
  obtain ⟨h1, h2, h3, h4, h5⟩ := S
  refine ⟨by rw [W.size, h1, List.length_set], by rw [List.length_set]; exact h2, h3, h4, fun j q hq => ?_⟩
  by_cases e : i = j
  · subst e
    rw [List.getElem?_set_self' ] at hq
    cases hi : H[i]? with
    | none => rw [hi] at hq; cases hq
    | some x => rw [hi] at hq; cases hq; exact O
  · rw [List.getElem?_set_ne e] at hq
    exact (h5 j q hq).other W fun g => e (adr_inj h3 h4 g).symm
end Facts
theorem putv_ok {ty : FieldType} {v v' : Value} (f : Nat → Nat) (h : putv ty v = some v') : narrow ty (ren f v) = ren f v' ∧ fits ty (ren f v') = true := by
  unfold putv at h
  split at h
  · cases h; exact ⟨rfl, rfl⟩
  · cases h; exact ⟨rfl, fits_nar_bool _⟩
  · cases h; exact ⟨rfl, fits_nar_byte _⟩
  · cases h; exact ⟨rfl, fits_nar_char _⟩
  · cases h; exact ⟨rfl, fits_nar_short _⟩
  · cases h; exact ⟨rfl, rfl⟩
  · cases h; exact ⟨rfl, rfl⟩
  · cases h
theorem size_set (c : Cell) (j : Nat) (v : Value) (f : Nat → Nat) {vs : List Value} {v' : Value} (e : c.slots = (vs.map (ren f)).toArray) (q : v = ren f v') : (c.setSlot j v).slots = ((vs.set j v').map (ren f)).toArray := by
  subst q
  show c.slots.setIfInBounds j (ren f v') = _
  rw [e, List.setIfInBounds_toArray, List.map_set]
section H
variable {p : Program} {l : Launch} {e : Env} {R : Room} {s : State} {m : MethodId} {args : Array Value} {below : List Frame} {meth : Method} {c : Code} {T : State} {locs : List Loc} {cells slots : Nat}
  {Z : State} {a0 : Array Value} {ws : Ws} {k sa n0 : Nat} {y : MethodName} {pc : Nat} {ls : List Slot} {st : List Value} {H : AHeap}
/-- the point behind one step -/
def Beh (p : Program) (l : Launch) (e : Env) (R : Room) (s : State) (m : MethodId) (args : Array Value) (below : List Frame) (meth : Method) (c : Code) (T : State) (Z : State) (ws : Ws) (k sa n0 cells slots : Nat) (H : AHeap) (g : JFrame) (pc' : Nat) (ls' : List Slot) (st' : List Value) (H' : AHeap) : Prop :=
  ∃ T' locs', Stand p l e R s m args below meth c T' locs' (cells + (H'.length - H.length)) (slots + (tot ws H' - tot ws H)) ∧ Sim Z ws k sa n0 H' T'.heap ∧ Fr n0 locs' ∧
    ∀ target, Steps p.tables e below (T'.setTop (fr (adr k sa n0) m pc' ls' st')) target → Steps p.tables e below (T.setTop g) target
theorem Beh.stay {g : JFrame} {pc' : Nat} {st' : List Value} {T' : State} (X : Stand p l e R s m args below meth c T' locs cells slots) (S : Sim Z ws k sa n0 H T'.heap) (N : Fr n0 locs)
    (h : ∀ target, Steps p.tables e below (T'.setTop (fr (adr k sa n0) m pc' ls st')) target → Steps p.tables e below (T.setTop g) target) : Beh p l e R s m args below meth c T Z ws k sa n0 cells slots H g pc' ls st' H :=
  ⟨T', locs, by rw [Nat.sub_self, Nat.sub_self]; exact X, S, N, h⟩
theorem hGet_sound (hw : ∀ d ∈ ws, d.before a0 Z = true) (X : Stand p l e R s m args below meth c T locs cells slots) (hx : p.tables.exec = Jvm.exec) (hZ : Z.Warmed39 s.vm) (hown : s.vm.findClass y.cls = some m.cls)
    {i : Nat} (hd : decode c.code pc = .ok (.getfield i, 3)) {q : Nat × List Value × AHeap} (hs : hGet ws y.cls i pc H st = some q) (S : Sim Z ws k sa n0 H T.heap) (N : Fr n0 locs) :
    Beh p l e R s m args below meth c T Z ws k sa n0 cells slots H (fr (adr k sa n0) m pc ls st) q.1 ls q.2.1 q.2.2 := by
  unfold hGet at hs
  split at hs
  · rename_i a r
    split at hs
    · rename_i C j C' vs q1 q2
      split at hs
      · rename_i hC; subst hC
        obtain ⟨v, hv, rfl⟩ := Option.map_eq_some_iff.mp hs
        obtain ⟨n, t, r1, r2⟩ := gfR_some q1
        obtain ⟨v', hv', F⟩ := (S.2.2.2.2 a _ q2).2 n t j r2
        cases hv.symm.trans hv'
        obtain ⟨T', X', e', st'⟩ := getF X hx hZ hown (host := "") (Or.inl (hw _ (rFld_mem r1))) Via.refl rfl F (g := fr (adr k sa n0) m pc ls (.ref a :: r)) rfl rfl hd
        exact Beh.stay X' (by rw [e']; exact S) N st'
      · cases hs
    · cases hs
  · cases hs
theorem hPut_sound (hw : ∀ d ∈ ws, d.before a0 Z = true) (X : Stand p l e R s m args below meth c T locs cells slots) (hx : p.tables.exec = Jvm.exec) (hZ : Z.Warmed39 s.vm) (hown : s.vm.findClass y.cls = some m.cls) (hnm : meth.name = y.name)
    {i : Nat} (hd : decode c.code pc = .ok (.putfield i, 3)) {q : Nat × List Value × AHeap} (hs : hPut ws k y.cls y.name i pc H st = some q) (S : Sim Z ws k sa n0 H T.heap) (N : Fr n0 locs) :
    Beh p l e R s m args below meth c T Z ws k sa n0 cells slots H (fr (adr k sa n0) m pc ls st) q.1 ls q.2.1 q.2.2 := by
  unfold hPut at hs
  split at hs
  · rename_i v a r
    split at hs
    · rename_i C j ty C' vs q1 q2
      split at hs
      · rename_i hC; obtain ⟨rfl, hk, hj⟩ := hC
        obtain ⟨v', hv, rfl⟩ := Option.map_eq_some_iff.mp hs
        obtain ⟨n, t, r1, r2, r3, r4, ⟨ki, r5⟩, r6⟩ := pfR_some q1
        have SO := S.2.2.2.2 a _ q2
        obtain ⟨w, hw', F⟩ := SO.2 n t j r2
        obtain ⟨g1, g2⟩ := putv_ok (adr k sa n0) hv
        obtain ⟨T', h', X', e', W, st'⟩ := putFN X hx hZ hown (hw _ (rFld_mem r1)) Via.refl rfl F SO.1 (r4.imp (fun q => hw _ q) fun q => ⟨hw _ q.1, q.2.1, hnm.trans q.2.2⟩) (hw _ r5) r3 g1 g2 (g := fr (adr k sa n0) m pc ls (v :: .ref a :: r)) rfl rfl hd
        have LL : ∀ {n' t' : String}, (n', t') ∈ olay ws C → Laid Z a0 C C n' t' := fun q => (lay_mem q).1.imp (fun q => hw _ q) (fun q => hw _ q)
        have O' : SimO Z ws (adr k sa n0) h' (adr k sa n0 a) (.object C, vs.set j v') := by
          refine ⟨SO.1.wr W, fun n' t' j' q' => ?_⟩
          obtain ⟨u, hu, F'⟩ := SO.2 n' t' j' q'
          by_cases ej : j = j'
          · subst ej
            obtain ⟨rfl, rfl⟩ := fidx_inj r2 q'
            exact ⟨v', by rw [List.getElem?_set_self hj], F.same W⟩
          · refine ⟨u, by rw [List.getElem?_set_ne ej]; exact hu, F'.other W (Or.inr ?_)⟩
            obtain ⟨-, ty', p'⟩ := lay_mem (fidx_mem q')
            refine slot_ne (LL (fidx_mem q')) (LL (fidx_mem r2)) (fun en => ?_) p' r3
            rcases r6 n' t' (fidx_mem q') with g | g
            · exact g en
            · subst en g; rw [r2] at q'; exact ej (Option.some.inj q')
        refine ⟨T', _, ?_, by rw [e']; exact Wr.upd S W O', Fr.snoc X' N (adr_ge hk), st'⟩
        show Stand p l e R s m args below meth c T' _ (cells + ((H.set a (.object C, vs.set j v')).length - H.length)) (slots + (tot ws (H.set a (.object C, vs.set j v')) - tot ws H))
        rw [List.length_set, tot_set (o := (.object C, vs)) (o' := (.object C, vs.set j v')) q2 rfl, Nat.sub_self, Nat.sub_self]
        exact X'
      · cases hs
    · cases hs
  · cases hs
theorem hNew_sound (hw : ∀ d ∈ ws, d.before a0 Z = true) (X : Stand p l e R s m args below meth c T locs cells slots) (hx : p.tables.exec = Jvm.exec) (hZ : Z.Warmed39 s.vm) (hown : s.vm.findClass y.cls = some m.cls)
    {i : Nat} (hd : decode c.code pc = .ok (.new i, 3)) {q : Nat × List Value × AHeap} (hs : hNew ws y.cls i pc H st = some q) (S : Sim Z ws k sa n0 H T.heap) (N : Fr n0 locs)
    (hc : cells + (q.2.2.length - H.length) ≤ R.cells) (hl : slots + (tot ws q.2.2 - tot ws H) ≤ R.slots) (hz0 : T.heap.size = s.heap.size + cells) :
    Beh p l e R s m args below meth c T Z ws k sa n0 cells slots H (fr (adr k sa n0) m pc ls st) q.1 ls q.2.1 q.2.2 := by
  unfold hNew at hs
  split at hs
  · rename_i C q1
    split at hs
    · rename_i g; cases hs
      obtain ⟨ki, hki⟩ := Option.isSome_iff_exists.mp g.1
      have ec : (H ++ [(FieldType.object C, (olay ws C).map dflt)]).length - H.length = 1 := by simp
      have es : tot ws (H ++ [(FieldType.object C, (olay ws C).map dflt)]) - tot ws H = ki := by
        rw [tot_app]; simp [cost, hki]
      dsimp only at hc hl ⊢
      rw [ec] at hc; rw [es] at hl
      have hz := S.next
      obtain ⟨T', h', X', e', E, A, D, -, st'⟩ := newO X hx hZ hown (hw _ (rCls_mem q1)) (hw _ (rInst_mem hki)) (hw _ (hasInit_mem g.2)) rfl (g := fr (adr k sa n0) m pc ls st) rfl hd hc hl
      have hz' : h'.size = T.heap.size + 1 := by
        have u1 := X'.heapSize
        have a1 : (T.heap.size : Nat) < h'.size := A.lt
        rw [e'] at u1
        omega
      refine ⟨T', locs, by rw [ec, es]; exact X', ?_, N, ?_⟩
      · rw [e']
        refine S.push E hz' ⟨A, fun n t j q => ?_⟩
        have hm := fidx_mem q
        obtain ⟨q2, ty, q3⟩ := lay_mem hm
        refine ⟨dflt (n, t), by rw [List.getElem?_map, idx_get q]; rfl, ?_⟩
        have F := D (O := C) (nm := n) (d := t) (q2.imp (fun q => hw _ q) (fun q => hw _ q)) q3
        have e3 : ren (adr k sa n0) (dflt (n, t)) = defaultValue ty := by simp only [dflt, q3, ren_dflt]
        rw [e3]; exact F
      · intro target ht
        rw [hz] at st'
        exact st' target ht
    · cases hs
  · cases hs
theorem hNewA_sound (hw : ∀ d ∈ ws, d.before a0 Z = true) (X : Stand p l e R s m args below meth c T locs cells slots) (hx : p.tables.exec = Jvm.exec) (hZ : Z.Warmed39 s.vm)
    {aty : ArrayType} (hd : decode c.code pc = .ok (.newarray aty, 2)) {q : Nat × List Value × AHeap} (hs : hNewA ws aty pc H st = some q) (S : Sim Z ws k sa n0 H T.heap) (N : Fr n0 locs)
    (hc : cells + (q.2.2.length - H.length) ≤ R.cells) (hl : slots + (tot ws q.2.2 - tot ws H) ≤ R.slots) (hz0 : T.heap.size = s.heap.size + cells) :
    Beh p l e R s m args below meth c T Z ws k sa n0 cells slots H (fr (adr k sa n0) m pc ls st) q.1 ls q.2.1 q.2.2 := by
  unfold hNewA at hs
  split at hs
  · rename_i n r
    split at hs
    · rename_i g; cases hs
      obtain ⟨g1, g2, g3⟩ := g
      have ec : (H ++ [(FieldType.array (newarray.typeOf aty), List.replicate n.toNatClampNeg (defaultValue (newarray.typeOf aty)))]).length - H.length = 1 := by simp
      have es : tot ws (H ++ [(FieldType.array (newarray.typeOf aty), List.replicate n.toNatClampNeg (defaultValue (newarray.typeOf aty)))]) - tot ws H = n.toNatClampNeg := by
        rw [tot_app]; simp [cost]
      dsimp only at hc hl ⊢
      rw [ec] at hc; rw [es] at hl
      have hz := S.next
      obtain ⟨T', h', cA, X', e', E, A, st'⟩ := newP X hx hZ (hw _ (hasArr_mem g1)) rfl (g := fr (adr k sa n0) m pc ls (.int n :: r)) rfl hd rfl g2 (cap := n.toNatClampNeg) (Nat.le_refl _) g3 hc hl
      have hz' : h'.size = T.heap.size + 1 := by
        have u1 := X'.heapSize
        have a1 : (T.heap.size : Nat) < h'.size := A.lt
        rw [e'] at u1
        omega
      refine ⟨T', locs, by rw [ec, es]; exact X', ?_, N, ?_⟩
      · rw [e']
        refine S.push E hz' ⟨_, A, ?_⟩
        simp [newA, ren_dflt]
      · intro target ht
        rw [hz] at st'
        exact st' target ht
    · cases hs
  · cases hs
theorem hLd_some {ok : FieldType → Bool} {q : Nat × List Value × AHeap} (hs : hLd ok pc H st = some q) : ∃ j a r ty vs v, st = .int j :: .ref a :: r ∧ H[a]? = some (.array ty, vs) ∧ ok ty = true ∧ ¬ j < 0 ∧ vs[j.toNatClampNeg]? = some v ∧ q = (pc + 1, v :: r, H) := by
  unfold hLd at hs
  split at hs
  · split at hs
    · split at hs
      · rename_i g
        obtain ⟨v, h1, h2⟩ := Option.map_eq_some_iff.mp hs
        exact ⟨_, _, _, _, _, v, rfl, by assumption, g.1, g.2, h1, h2.symm⟩
      · cases hs
    · cases hs
  · cases hs
theorem hSt_some {ok : FieldType → Bool} {q : Nat × List Value × AHeap} (hs : hSt ok k pc H st = some q) : ∃ v j a r ty vs v', st = v :: .int j :: .ref a :: r ∧ H[a]? = some (.array ty, vs) ∧ ok ty = true ∧ k ≤ a ∧ ¬ j < 0 ∧ j.toNatClampNeg < vs.length ∧ putv ty v = some v' ∧ q = (pc + 1, r, H.set a (.array ty, vs.set j.toNatClampNeg v')) := by
  unfold hSt at hs
  split at hs
  · split at hs
    · split at hs
      · rename_i g
        obtain ⟨v, h1, h2⟩ := Option.map_eq_some_iff.mp hs
        exact ⟨_, _, _, _, _, _, v, rfl, by assumption, g.1, g.2.1, g.2.2.1, g.2.2.2, h1, h2.symm⟩
      · cases hs
    · cases hs
  · cases hs
theorem hLen_some {q : Nat × List Value × AHeap} (hs : hLen pc H st = some q) : ∃ a r ty vs, st = .ref a :: r ∧ H[a]? = some (.array ty, vs) ∧ q = (pc + 1, .int vs.length.toInt32 :: r, H) := by
  unfold hLen at hs
  split at hs
  · split at hs
    · cases hs; exact ⟨_, _, _, _, rfl, by assumption, rfl⟩
    · cases hs
  · cases hs
/-- behind a store into an array -/
theorem st_beh {T' : State} {h' : Heap} {a j : Nat} {ty : FieldType} {vs : List Value} {v' : Value} {r : List Value} {g : JFrame} (X' : Stand p l e R s m args below meth c T' (locs ++ [⟨adr k sa n0 a, j⟩]) cells slots) (e' : T'.heap = h') (W : Wr T.heap h' (adr k sa n0 a) j (ren (adr k sa n0) v'))
    (S : Sim Z ws k sa n0 H T.heap) (N : Fr n0 locs) (q2 : H[a]? = some (.array ty, vs)) (hk : k ≤ a)
    (st' : ∀ target, Steps p.tables e below (T'.setTop (fr (adr k sa n0) m (pc + 1) ls r)) target → Steps p.tables e below (T.setTop g) target) :
    Beh p l e R s m args below meth c T Z ws k sa n0 cells slots H g (pc + 1) ls r (H.set a (.array ty, vs.set j v')) := by
  obtain ⟨cl, A, es⟩ := S.2.2.2.2 a _ q2
  refine ⟨T', _, ?_, by rw [e']; exact Wr.upd S W ⟨_, A.same W, size_set cl j _ _ es rfl⟩, Fr.snoc X' N (adr_ge hk), st'⟩
  rw [List.length_set, tot_set (o := (.array ty, vs)) (o' := (.array ty, vs.set j v')) q2 (by simp [cost]), Nat.sub_self, Nat.sub_self]
  exact X'
set_option maxHeartbeats 1000000 in
theorem hstep_sound (hw : ∀ d ∈ ws, d.before a0 Z = true) (X : Stand p l e R s m args below meth c T locs cells slots) (hx : p.tables.exec = Jvm.exec) (hZ : Z.Warmed39 s.vm) (hown : s.vm.findClass y.cls = some m.cls) (hnm : meth.name = y.name)
    {ins : Instr} {len : Nat} (hd : decode c.code pc = .ok (ins, len)) {q : Nat × List Value × AHeap} (hs : hstep ws k y ins len pc st H = some q) (S : Sim Z ws k sa n0 H T.heap) (N : Fr n0 locs)
    (hc : cells + (q.2.2.length - H.length) ≤ R.cells) (hl : slots + (tot ws q.2.2 - tot ws H) ≤ R.slots) (hz0 : T.heap.size = s.heap.size + cells) :
    Beh p l e R s m args below meth c T Z ws k sa n0 cells slots H (fr (adr k sa n0) m pc ls st) q.1 ls q.2.1 q.2.2 := by
  unfold hstep at hs
  split at hs
  · obtain ⟨rfl, hs⟩ := chk_some hs
    exact hGet_sound hw X hx hZ hown hd hs S N
  · obtain ⟨rfl, hs⟩ := chk_some hs
    exact hPut_sound hw X hx hZ hown hnm hd hs S N
  · obtain ⟨rfl, hs⟩ := chk_some hs
    exact hNew_sound hw X hx hZ hown hd hs S N hc hl hz0
  · obtain ⟨rfl, hs⟩ := chk_some hs
    exact hNewA_sound hw X hx hZ hd hs S N hc hl hz0
  · obtain ⟨rfl, hs⟩ := chk_some hs
    obtain ⟨j, a, r, ty, vs, v, rfl, q2, ho, hj, hv, rfl⟩ := hLd_some hs
    obtain rfl : ty = _ := of_decide_eq_true ho
    obtain ⟨cl, A, es⟩ := S.2.2.2.2 a _ q2
    have hlt := (List.getElem?_eq_some_iff.mp hv).1
    exact Beh.stay X S N fun target ht => X.iaload hx (j := j) (v := ren (adr k sa n0) v) A.1 (State.isArrayOf_alike hZ.alike A.2.1) A.2.2 (fun g => g.elim hj fun g => by rw [es] at g; simp at g; omega) (by rw [es, List.getElem?_toArray, List.getElem?_map, hv]; rfl) (g := fr (adr k sa n0) m pc ls (.int j :: .ref a :: r)) rfl rfl hd target ht
  · obtain ⟨rfl, hs⟩ := chk_some hs
    obtain ⟨j, a, r, ty, vs, v, rfl, q2, ho, hj, hv, rfl⟩ := hLd_some hs
    obtain rfl : ty = _ := of_decide_eq_true ho
    obtain ⟨cl, A, es⟩ := S.2.2.2.2 a _ q2
    have hlt := (List.getElem?_eq_some_iff.mp hv).1
    exact Beh.stay X S N fun target ht => X.caload hx (j := j) (v := ren (adr k sa n0) v) A.1 (State.isArrayOf_alike hZ.alike A.2.1) A.2.2 (fun g => g.elim hj fun g => by rw [es] at g; simp at g; omega) (by rw [es, List.getElem?_toArray, List.getElem?_map, hv]; rfl) (g := fr (adr k sa n0) m pc ls (.int j :: .ref a :: r)) rfl rfl hd target ht
  · obtain ⟨rfl, hs⟩ := chk_some hs
    obtain ⟨j, a, r, ty, vs, v, rfl, q2, ho, hj, hv, rfl⟩ := hLd_some hs
    obtain rfl : ty = _ := of_decide_eq_true ho
    obtain ⟨cl, A, es⟩ := S.2.2.2.2 a _ q2
    have hlt := (List.getElem?_eq_some_iff.mp hv).1
    exact Beh.stay X S N fun target ht => X.laload hx (j := j) (v := ren (adr k sa n0) v) A.1 (State.isArrayOf_alike hZ.alike A.2.1) A.2.2 (fun g => g.elim hj fun g => by rw [es] at g; simp at g; omega) (by rw [es, List.getElem?_toArray, List.getElem?_map, hv]; rfl) (g := fr (adr k sa n0) m pc ls (.int j :: .ref a :: r)) rfl rfl hd target ht
  · obtain ⟨rfl, hs⟩ := chk_some hs
    obtain ⟨j, a, r, ty, vs, v, rfl, q2, ho, hj, hv, rfl⟩ := hLd_some hs
    obtain ⟨cl, A, es⟩ := S.2.2.2.2 a _ q2
    have hlt := (List.getElem?_eq_some_iff.mp hv).1
    simp only [okB, Bool.or_eq_true, decide_eq_true_eq] at ho
    rcases ho with rfl | rfl
    · exact Beh.stay X S N fun target ht => X.baloadBytes hx (j := j) (v := ren (adr k sa n0) v) A.1 (State.isArrayOf_alike hZ.alike A.2.1) A.2.2 (fun g => g.elim hj fun g => by rw [es] at g; simp at g; omega) (by rw [es, List.getElem?_toArray, List.getElem?_map, hv]; rfl) (g := fr (adr k sa n0) m pc ls (.int j :: .ref a :: r)) rfl rfl hd target ht
    · exact Beh.stay X S N fun target ht => X.baloadBooleans hx (j := j) (v := ren (adr k sa n0) v) A.1 (State.isArrayOf_alike hZ.alike A.2.1) A.2.2 (fun g => g.elim hj fun g => by rw [es] at g; simp at g; omega) (by rw [es, List.getElem?_toArray, List.getElem?_map, hv]; rfl) (g := fr (adr k sa n0) m pc ls (.int j :: .ref a :: r)) rfl rfl hd target ht
  · obtain ⟨rfl, hs⟩ := chk_some hs
    obtain ⟨v, j, a, r, ty, vs, v', rfl, q2, ho, hk, hj, hlt, hv, rfl⟩ := hSt_some hs
    obtain rfl : ty = _ := of_decide_eq_true ho
    obtain ⟨cl, A, es⟩ := S.2.2.2.2 a _ q2
    cases v <;> simp only [putv, Option.some.injEq, reduceCtorEq] at hv
    subst hv
    obtain ⟨T', h', X', e', W, st'⟩ := stI X hx hZ rfl A (j := j) (fun g => g.elim hj fun g => by rw [es] at g; simp at g; omega) (g := fr (adr k sa n0) m pc ls (.int _ :: .int j :: .ref a :: r)) rfl rfl hd
    exact st_beh X' e' W S N q2 hk st'
  · obtain ⟨rfl, hs⟩ := chk_some hs
    obtain ⟨v, j, a, r, ty, vs, v', rfl, q2, ho, hk, hj, hlt, hv, rfl⟩ := hSt_some hs
    obtain rfl : ty = _ := of_decide_eq_true ho
    obtain ⟨cl, A, es⟩ := S.2.2.2.2 a _ q2
    cases v <;> simp only [putv, Option.some.injEq, reduceCtorEq] at hv
    subst hv
    obtain ⟨T', h', X', e', W, st'⟩ := stC X hx hZ rfl A (j := j) (fun g => g.elim hj fun g => by rw [es] at g; simp at g; omega) (g := fr (adr k sa n0) m pc ls (.int _ :: .int j :: .ref a :: r)) rfl rfl hd
    exact st_beh X' e' W S N q2 hk st'
  · obtain ⟨rfl, hs⟩ := chk_some hs
    obtain ⟨v, j, a, r, ty, vs, v', rfl, q2, ho, hk, hj, hlt, hv, rfl⟩ := hSt_some hs
    obtain rfl : ty = _ := of_decide_eq_true ho
    obtain ⟨cl, A, es⟩ := S.2.2.2.2 a _ q2
    cases v <;> simp only [putv, Option.some.injEq, reduceCtorEq] at hv
    subst hv
    obtain ⟨T', h', X', e', W, st'⟩ := stJ X hx hZ rfl A (j := j) (fun g => g.elim hj fun g => by rw [es] at g; simp at g; omega) (g := fr (adr k sa n0) m pc ls (.long _ :: .int j :: .ref a :: r)) rfl rfl hd
    exact st_beh X' e' W S N q2 hk st'
  · obtain ⟨rfl, hs⟩ := chk_some hs
    obtain ⟨v, j, a, r, ty, vs, v', rfl, q2, ho, hk, hj, hlt, hv, rfl⟩ := hSt_some hs
    obtain ⟨cl, A, es⟩ := S.2.2.2.2 a _ q2
    simp only [okB, Bool.or_eq_true, decide_eq_true_eq] at ho
    rcases ho with rfl | rfl
    · cases v <;> simp only [putv, Option.some.injEq, reduceCtorEq] at hv
      subst hv
      obtain ⟨T', h', X', e', W, st'⟩ := stB X hx hZ rfl A (j := j) (fun g => g.elim hj fun g => by rw [es] at g; simp at g; omega) (g := fr (adr k sa n0) m pc ls (.int _ :: .int j :: .ref a :: r)) rfl rfl hd
      exact st_beh X' e' W S N q2 hk st'
    · cases v <;> simp only [putv, Option.some.injEq, reduceCtorEq] at hv
      subst hv
      obtain ⟨T', h', X', e', W, st'⟩ := stZ X hx hZ rfl A (j := j) (fun g => g.elim hj fun g => by rw [es] at g; simp at g; omega) (g := fr (adr k sa n0) m pc ls (.int _ :: .int j :: .ref a :: r)) rfl rfl hd
      exact st_beh X' e' W S N q2 hk st'
  · obtain ⟨rfl, hs⟩ := chk_some hs
    obtain ⟨a, r, ty, vs, rfl, q2, rfl⟩ := hLen_some hs
    obtain ⟨cl, A, es⟩ := S.2.2.2.2 a _ q2
    have ez : cl.slots.size = vs.length := by rw [es]; simp
    refine Beh.stay X S N fun target ht => X.arraylength hx (cell := cl) A.1 (State.isArrayOf_alike hZ.alike A.2.1) (g := fr (adr k sa n0) m pc ls (.ref a :: r)) rfl rfl hd target ?_
    rw [ez]; exact ht
  · obtain ⟨rfl, hs⟩ := chk_some hs
    obtain ⟨v, hv, rfl⟩ := Option.map_eq_some_iff.mp hs
    exact Beh.stay X S N (X.ldcInt hx hown (mvT hZ (hw _ (rCon_mem hv))) (g := fr (adr k sa n0) m pc ls st) rfl hd)
  · obtain ⟨rfl, hs⟩ := chk_some hs
    obtain ⟨v, hv, rfl⟩ := Option.map_eq_some_iff.mp hs
    exact Beh.stay X S N (X.ldcwInt hx hown (mvT hZ (hw _ (rCon_mem hv))) (g := fr (adr k sa n0) m pc ls st) rfl hd)
  · obtain ⟨rfl, hs⟩ := chk_some hs
    obtain ⟨v, hv, rfl⟩ := Option.map_eq_some_iff.mp hs
    exact Beh.stay X S N (X.ldc2Long hx hown (mvT hZ (hw _ (rConL_mem hv))) (g := fr (adr k sa n0) m pc ls st) rfl hd)
  · cases hs
end H
theorem hstep_size {ws : Ws} {k : Nat} {y : MethodName} {ins : Instr} {len pc : Nat} {st : List Value} {H : AHeap} {q : Nat × List Value × AHeap} (hs : hstep ws k y ins len pc st H = some q) : H.length ≤ q.2.2.length ∧ tot ws H ≤ tot ws q.2.2 := by
  unfold hstep at hs
  split at hs
  · obtain ⟨rfl, hs⟩ := chk_some hs
    unfold hGet at hs
    split at hs
    · split at hs
      · split at hs
        · obtain ⟨v, -, rfl⟩ := Option.map_eq_some_iff.mp hs; exact ⟨Nat.le_refl _, Nat.le_refl _⟩
        · cases hs
      · cases hs
    · cases hs
  · obtain ⟨rfl, hs⟩ := chk_some hs
    unfold hPut at hs
    split at hs
    · split at hs
      · rename_i C j ty C' vs q1 q2
        split at hs
        · obtain ⟨v, -, rfl⟩ := Option.map_eq_some_iff.mp hs
          exact ⟨Nat.le_of_eq (by rw [List.length_set]), Nat.le_of_eq (tot_set (o := (.object C', vs)) (o' := (.object C', vs.set j v)) q2 rfl).symm⟩
        · cases hs
      · cases hs
    · cases hs
  · obtain ⟨rfl, hs⟩ := chk_some hs
    unfold hNew at hs
    split at hs
    · split at hs
      · cases hs; exact ⟨by simp, by rw [tot_app]; omega⟩
      · cases hs
    · cases hs
  · obtain ⟨rfl, hs⟩ := chk_some hs
    unfold hNewA at hs
    split at hs
    · split at hs
      · cases hs; exact ⟨by simp, by rw [tot_app]; omega⟩
      · cases hs
    · cases hs
  all_goals first
    | (obtain ⟨rfl, hs⟩ := chk_some hs; obtain ⟨j, a, r, ty, vs, v, rfl, q2, ho, hj, hv, rfl⟩ := hLd_some hs; exact ⟨Nat.le_refl _, Nat.le_refl _⟩)
    | (obtain ⟨rfl, hs⟩ := chk_some hs; obtain ⟨v, j, a, r, ty, vs, v', rfl, q2, ho, hk, hj, hlt, hv, rfl⟩ := hSt_some hs; exact ⟨Nat.le_of_eq (by rw [List.length_set]), Nat.le_of_eq (tot_set (o := (.array ty, vs)) (o' := (.array ty, vs.set _ v')) q2 (by simp [cost])).symm⟩)
    | (obtain ⟨rfl, hs⟩ := chk_some hs; obtain ⟨a, r, ty, vs, rfl, q2, rfl⟩ := hLen_some hs; exact ⟨Nat.le_refl _, Nat.le_refl _⟩)
    | (obtain ⟨rfl, hs⟩ := chk_some hs; obtain ⟨v, hv, rfl⟩ := Option.map_eq_some_iff.mp hs; exact ⟨Nat.le_refl _, Nat.le_refl _⟩)
    | (cases hs; done)
end Jvm.Own
namespace Jvm.Own
open Sem ClassFile Op Lib Jvm.Stand Jvm.Free Jvm.LawKit Jvm.RoadKit
/-! OWN 5: the run is the machine's -/
theorem ent_ren (f : Nat → Nat) : ∀ as : List Value, ent (as.map (ren f)) = (ent as).map (renS f)
  | [] => rfl
  | v :: r => by
    simp only [List.map_cons, ent, ren_cat, ent_ren f r]
    split <;> rfl
theorem fill_eq : ∀ (as : List Value) (acc : Array Slot), as.foldl (fun acc v => if v.category = 2 then (acc.push (.val v)).push .second else acc.push (.val v)) acc = acc ++ (ent as).toArray
  | [], acc => by simp [ent]
  | v :: r, acc => by
    simp only [List.foldl_cons, ent]
    split
    · rw [fill_eq r]; simp [← Array.toList_inj]
    · rw [fill_eq r]; simp [← Array.toList_inj]
theorem entry_eq (f : Nat → Nat) (m : MethodId) (as : List Value) (mx : Nat) : entryFrame m (as.map (ren f)).toArray mx = fr f m 0 (entry as mx) [] := by
  have h : argsToLocals (as.map (ren f)).toArray mx = ((entry as mx).map (renS f)).toArray := by
    unfold argsToLocals entry
    simp only [List.foldl_toArray']
    rw [fill_eq, ent_ren]
    simp [← Array.toList_inj, renS]
  unfold entryFrame
  rw [h]; rfl
theorem entry_len {as : List Value} {mx : Nat} (h : (ent as).length ≤ mx) : (entry as mx).length = mx := by simp [entry]; omega
theorem wsum_ren (f : Nat → Nat) (st : List Value) : ((st.map (ren f)).map fun v => v.category).sum = wsum st := by
  unfold wsum
  rw [List.map_map]
  congr 1
  apply List.map_congr_left
  intro v _
  exact ren_cat f v
section Inv
variable {ws : Ws} {dn : Dn} {k : Nat} {y : MethodName} {bytes : ByteArray} {ret : Option FieldType} {pc : Nat} {ls : List Slot} {st : List Value} {H : AHeap}
theorem cR_some {i : Nat} {y' : MethodName} {b : ByteArray} {mx na sl : Nat} {r : Option FieldType} (h : cR ws dn y i = some (y', b, mx, r, na, sl)) :
    Jvm.Cond.methodLink y.cls i y' ∈ ws ∧ Jvm.Cond.code y' b mx r ∈ ws ∧ Jvm.Cond.initialized y'.cls ∈ ws ∧ Jvm.plainName y'.cls = true ∧ (y'.cls ≠ "java/lang/invoke/MethodHandle" ∧ y'.cls ≠ "java/lang/invoke/VarHandle") ∧ rCode ws y' = some (b, mx, r) ∧
    ∃ f' l' f l sig, dnOf dn y' = some (f', l') ∧ dnOf dn y = some (f, l) ∧ parseMethodDescriptor y'.desc = some sig ∧ na = sig.parameters.length ∧ f' + 1 ≤ f ∧ sl + (mx + 11) + l' ≤ l := by
  unfold cR at h
  split at h
  · cases h
  · rename_i z q1
    split at h
    · rename_i b' mx' r' f' l' f l sig q2 q3 q4 q5
      split at h
      · rename_i g
        cases h
        obtain ⟨g1, g2, g3, g4, g5, g6⟩ := g
        exact ⟨rMth_mem q1, rCode_mem q2, hasInit_mem g1, g2, ⟨g3, g4⟩, q2, f', l', f, l, sig, q3, q4, q5, rfl, g5, by omega⟩
      · cases h
    · cases h
theorem act_ret {v : Option Value} (h : act ws dn k y bytes ret pc ls st H = some (.inl v)) : (∃ z r t, decode bytes pc = .ok (.ireturn, 1) ∧ st = .int z :: r ∧ ret = some t ∧ (t = .int ∨ t = .boolean ∨ t = .byte ∨ t = .char ∨ t = .short) ∧ v = some (.int (nar t z))) ∨
    (∃ z, decode bytes pc = .ok (.lreturn, 1) ∧ st = [.long z] ∧ ret = some .long ∧ v = some (.long z)) ∨ (decode bytes pc = .ok (.return_, 1) ∧ st = [] ∧ ret = none ∧ v = none) := by
  unfold act at h
  split at h
  · cases h
  rename_i ins len hd
  split at h
  · cases h
  split at h
  · cases h
  unfold cstep at h
  split at h
  · obtain ⟨rfl, h⟩ := chk_some h
    split at h
    · split at h
      · rename_i g; cases h; exact Or.inl ⟨_, _, _, hd, rfl, rfl, g, rfl⟩
      · cases h
    · cases h
  · obtain ⟨rfl, h⟩ := chk_some h
    split at h
    · cases h; exact Or.inr (Or.inl ⟨_, hd, rfl, rfl, rfl⟩)
    · cases h
  · obtain ⟨rfl, h⟩ := chk_some h
    split at h
    · cases h; exact Or.inr (Or.inr ⟨hd, rfl, rfl, rfl⟩)
    · cases h
  · obtain ⟨rfl, h⟩ := chk_some h
    split at h
    · split at h <;> cases h
    · cases h
  · obtain ⟨rfl, h⟩ := chk_some h
    split at h
    · split at h
      · split at h <;> cases h
      · cases h
    · split at h
      · split at h
        · split at h <;> cases h
        · cases h
      · cases h
  · obtain ⟨rfl, h⟩ := chk_some h
    split at h
    · split at h
      · split at h
        · split at h <;> cases h
        · cases h
      · cases h
    · cases h
  · cases h
theorem act_step {pc' : Nat} {ls' : List Slot} {st' : List Value} {H' : AHeap} (h : act ws dn k y bytes ret pc ls st H = some (.inr (.inl (pc', ls', st', H')))) : ∃ ins len, decode bytes pc = .ok (ins, len) ∧
    ((xstep ins len pc ls st = some (pc', ls', st') ∧ H' = H) ∨ (ls' = ls ∧ hstep ws k y ins len pc st H = some (pc', st', H')) ∨
     (∃ i sl a r, ins = .invokespecial i ∧ len = 3 ∧ oR ws dn y i = some sl ∧ st = .ref a :: r ∧ wsum r ≤ sl ∧ pc' = pc + 3 ∧ ls' = ls ∧ st' = r ∧ H' = H)) := by
  unfold act at h
  split at h
  · cases h
  rename_i ins len hd
  refine ⟨ins, len, hd, ?_⟩
  split at h
  · rename_i g; cases h; exact Or.inl ⟨g, rfl⟩
  split at h
  · rename_i g; cases h; exact Or.inr (Or.inl ⟨rfl, g⟩)
  unfold cstep at h
  split at h
  · obtain ⟨rfl, h⟩ := chk_some h
    split at h
    · split at h <;> cases h
    · cases h
  · obtain ⟨rfl, h⟩ := chk_some h
    split at h <;> cases h
  · obtain ⟨rfl, h⟩ := chk_some h
    split at h <;> cases h
  · obtain ⟨rfl, h⟩ := chk_some h
    split at h
    · split at h <;> cases h
    · cases h
  · obtain ⟨rfl, h⟩ := chk_some h
    split at h
    · rename_i sl ho
      split at h
      · split at h
        · rename_i g; cases h; exact Or.inr (Or.inr ⟨_, sl, _, _, rfl, rfl, ho, rfl, g, rfl, rfl, rfl, rfl⟩)
        · cases h
      · cases h
    · split at h
      · split at h
        · split at h <;> cases h
        · cases h
      · cases h
  · obtain ⟨rfl, h⟩ := chk_some h
    split at h
    · split at h
      · split at h
        · split at h <;> cases h
        · cases h
      · cases h
    · cases h
  · cases h
/-- the three kinds of call -/
theorem act_call {y' : MethodName} {b : ByteArray} {r : Option FieldType} {en : List Slot} {rest : List Value} (h : act ws dn k y bytes ret pc ls st H = some (.inr (.inr (y', b, r, en, rest)))) : ∃ i mx na sl as, cR ws dn y i = some (y', b, mx, r, na, sl) ∧ en = entry as mx ∧ (ent as).length ≤ mx ∧ wsum rest ≤ sl ∧
    ((decode bytes pc = .ok (.invokestatic i, 3) ∧ Jvm.Cond.static y' ∈ ws ∧ as.length = na ∧ st = as.reverse ++ rest) ∨
     (∃ a as', as = .ref a :: as' ∧ as'.length = na ∧ st = as'.reverse ++ .ref a :: rest ∧ Jvm.Cond.instanceMethod y' ∈ ws ∧
      ((decode bytes pc = .ok (.invokespecial i, 3) ∧ y'.name = "<init>" ∧ r = none) ∨
       (decode bytes pc = .ok (.invokevirtual i, 3) ∧ ∃ C vs, H[a]? = some (.object C, vs) ∧ ((Jvm.Cond.privateMethod y' ∈ ws ∧ ∃ ki, Jvm.Cond.instantiable y'.cls ki ∈ ws) ∨ (Jvm.Cond.declares y' ∈ ws ∧ Jvm.Cond.selects y'.cls y' y' ∈ ws ∧ C = y'.cls)))))) := by
  unfold act at h
  split at h
  · cases h
  rename_i ins len hd
  split at h
  · cases h
  split at h
  · cases h
  unfold cstep at h
  split at h
  · obtain ⟨rfl, h⟩ := chk_some h
    split at h
    · split at h <;> cases h
    · cases h
  · obtain ⟨rfl, h⟩ := chk_some h
    split at h <;> cases h
  · obtain ⟨rfl, h⟩ := chk_some h
    split at h <;> cases h
  · rename_i i _ _
    obtain ⟨rfl, h⟩ := chk_some h
    split at h
    · rename_i y1 b1 mx r1 na sl hq
      split at h
      · rename_i g
        cases h
        unfold sR at hq
        split at hq
        · rename_i q hc
          split at hq
          · rename_i hs
            cases hq
            refine ⟨i, mx, na, sl, _, hc, rfl, g.2.2, g.2.1, Or.inl ⟨hd, hasStat_mem hs, by simp; omega, by simp⟩⟩
          · cases hq
        · cases hq
      · cases h
    · cases h
  · rename_i i _ _
    obtain ⟨rfl, h⟩ := chk_some h
    split at h
    · split at h
      · split at h <;> cases h
      · cases h
    · split at h
      · rename_i y1 b1 mx r1 na sl hq
        split at h
        · rename_i a rest' hdrop
          split at h
          · rename_i g
            cases h
            unfold nR at hq
            split at hq
            · rename_i q hc
              split at hq
              · rename_i hs
                cases hq
                refine ⟨i, mx, na, sl, _, hc, rfl, g.2.1, g.1, Or.inr ⟨a, _, rfl, by simp; omega, ?_, hasIM_mem hs.2.1, Or.inl ⟨hd, hs.1, hs.2.2⟩⟩⟩
                rw [List.reverse_reverse, ← hdrop, List.take_append_drop]
              · cases hq
            · cases hq
          · cases h
        · cases h
      · cases h
  · rename_i i _ _
    obtain ⟨rfl, h⟩ := chk_some h
    split at h
    · rename_i pv y1 b1 mx r1 na sl hq
      split at h
      · rename_i a rest' hdrop
        split at h
        · rename_i C vs hH
          split at h
          · rename_i g
            cases h
            unfold vR at hq
            split at hq
            · rename_i q hc
              split at hq
              · rename_i hs
                split at hq
                · rename_i hp; cases hq
                  obtain ⟨ki, hki⟩ := Option.isSome_iff_exists.mp hp.2
                  exact ⟨i, mx, na, sl, _, hc, rfl, g.2.2.1, g.2.1, Or.inr ⟨a, _, rfl, by simp; omega, by rw [List.reverse_reverse, ← hdrop, List.take_append_drop], hasIM_mem hs, Or.inr ⟨hd, C, vs, hH, Or.inl ⟨hasPriv_mem hp.1, ki, rInst_mem hki⟩⟩⟩⟩
                · split at hq
                  · rename_i hp; cases hq
                    exact ⟨i, mx, na, sl, _, hc, rfl, g.2.2.1, g.2.1, Or.inr ⟨a, _, rfl, by simp; omega, by rw [List.reverse_reverse, ← hdrop, List.take_append_drop], hasIM_mem hs, Or.inr ⟨hd, C, vs, hH, Or.inr ⟨hasDecl_mem hp.1, hasSel_mem hp.2, g.1.resolve_left (by simp)⟩⟩⟩⟩
                  · cases hq
              · cases hq
            · cases hq
          · cases h
        · cases h
      · cases h
    · cases h
  · cases h
theorem act_size {pc' : Nat} {ls' : List Slot} {st' : List Value} {H' : AHeap} (h : act ws dn k y bytes ret pc ls st H = some (.inr (.inl (pc', ls', st', H')))) : H.length ≤ H'.length ∧ tot ws H ≤ tot ws H' ∧ ls'.length = ls.length := by
  obtain ⟨ins, len, hd, ⟨g, rfl⟩ | ⟨rfl, g⟩ | ⟨i, sl, a, r, -, -, -, -, -, -, rfl, -, rfl⟩⟩ := act_step h
  · exact ⟨Nat.le_refl _, Nat.le_refl _, xstep_size g⟩
  · have := hstep_size g; exact ⟨this.1, this.2, rfl⟩
  · exact ⟨Nat.le_refl _, Nat.le_refl _, rfl⟩
end Inv
theorem run_size {ws : Ws} {dn : Dn} {k : Nat} : ∀ {n : Nat} {y : MethodName} {bytes : ByteArray} {ret : Option FieldType} {pc : Nat} {ls : List Slot} {st : List Value} {H : AHeap} {v : Option Value} {H' : AHeap}, run ws dn k n y bytes ret pc ls st H = some (v, H') → H.length ≤ H'.length ∧ tot ws H ≤ tot ws H'
  | 0, _, _, _, _, _, _, _, _, _, h => by cases h
  | n + 1, y, bytes, ret, pc, ls, st, H, v, H', h => by
    rw [run] at h
    split at h
    · cases h
    · cases h; exact ⟨Nat.le_refl _, Nat.le_refl _⟩
    · rename_i g
      have h1 := run_size h
      have h2 := act_size g
      exact ⟨Nat.le_trans h2.1 h1.1, Nat.le_trans h2.2.1 h1.2⟩
    · split at h
      · rename_i g
        have h1 := run_size h
        have h2 := run_size g
        exact ⟨Nat.le_trans h2.1 h1.1, Nat.le_trans h2.2 h1.2⟩
      · cases h
section Snd
/-- from here on the machine comes to a return of v with the heap H' -/
def Goes (p : Program) (l : Launch) (e : Env) (R : Room) (s : State) (m : MethodId) (args : Array Value) (below : List Frame) (meth : Method) (c : Code) (T : State) (Z : State) (ws : Ws) (k sa n0 cells slots : Nat) (H : AHeap) (g : JFrame) (ret : Option FieldType) (v : Option Value) (H' : AHeap) : Prop :=
  ∃ T' locs', Stand p l e R s m args below meth c T' locs' (cells + (H'.length - H.length)) (slots + (tot ws H' - tot ws H)) ∧ Sim Z ws k sa n0 H' T'.heap ∧ Fr n0 locs' ∧ (ret = none → v = none) ∧
    ∀ fs, (∀ (fj : JFrame) (acts : List Action), fj.method = m → fj.locked = none → fj.entered = [] → (doReturn e (T'.setTop fj) acts (v.map (ren (adr k sa n0)))).1 = T'.setFrames fs) → Steps p.tables e below (T.setTop g) (T'.setFrames fs)
variable {p : Program} {l : Launch} {e : Env} {R : Room} {s : State} {m : MethodId} {args : Array Value} {below : List Frame} {meth : Method} {c : Code} {T : State} {locs : List Loc} {cells slots : Nat}
  {Z : State} {a0 : Array Value} {ws : Ws} {dn : Dn} {k sa n0 : Nat}
theorem Goes.of {T1 : State} {H H1 H' : AHeap} {g g1 : JFrame} {ret : Option FieldType} {v : Option Value} (hst : ∀ target, Steps p.tables e below (T1.setTop g1) target → Steps p.tables e below (T.setTop g) target)
    (G : Goes p l e R s m args below meth c T1 Z ws k sa n0 (cells + (H1.length - H.length)) (slots + (tot ws H1 - tot ws H)) H1 g1 ret v H') (m1 : H.length ≤ H1.length ∧ tot ws H ≤ tot ws H1) (m2 : H1.length ≤ H'.length ∧ tot ws H1 ≤ tot ws H') :
    Goes p l e R s m args below meth c T Z ws k sa n0 cells slots H g ret v H' := by
  obtain ⟨T', locs', X', S', N', hv, go⟩ := G
  have e1 : cells + (H1.length - H.length) + (H'.length - H1.length) = cells + (H'.length - H.length) := by omega
  have e2 : slots + (tot ws H1 - tot ws H) + (tot ws H' - tot ws H1) = slots + (tot ws H' - tot ws H) := by omega
  rw [e1, e2] at X'
  exact ⟨T', locs', X', S', N', hv, fun fs hf => hst _ (go fs hf)⟩
def Snd (Z : State) (ws : Ws) (dn : Dn) (k sa n0 n : Nat) : Prop :=
  ∀ (y : MethodName) (bytes : ByteArray) (ret : Option FieldType) (pc : Nat) (ls : List Slot) (st : List Value) (H : AHeap) (v : Option Value) (H' : AHeap), run ws dn k n y bytes ret pc ls st H = some (v, H') →
  ∀ (p : Program) (l : Launch) (e : Env) (R : Room) (s : State) (m : MethodId) (args : Array Value) (below : List Frame) (meth : Method) (c : Code) (T : State) (locs : List Loc) (cells slots : Nat),
    Stand p l e R s m args below meth c T locs cells slots → p.tables.exec = Jvm.exec → Z.Warmed39 s.vm → s.vm.findClass y.cls = some m.cls → meth.name = y.name → meth.sig.returnType = ret → c.code = bytes → ls.length = c.maxLocals →
    (∀ f lc, dnOf dn y = some (f, lc) → f ≤ R.frames ∧ lc ≤ R.locals) → Sim Z ws k sa n0 H T.heap → Fr n0 locs → cells + (H'.length - H.length) ≤ R.cells → slots + (tot ws H' - tot ws H) ≤ R.slots → T.heap.size = s.heap.size + cells →
    Goes p l e R s m args below meth c T Z ws k sa n0 cells slots H (fr (adr k sa n0) m pc ls st) ret v H'
theorem met_of {n : Nat} (ih : Snd Z ws dn k sa n0 n) (l : Launch) {y : MethodName} {b : ByteArray} {mx f lc : Nat} {r : Option FieldType} (wsx : List Jvm.Cond) (hp : Jvm.plainName y.cls = true) {as : List Value} (he : (ent as).length ≤ mx) {H H1 : AHeap} {v : Option Value}
    (hrun : run ws dn k n y b r 0 (entry as mx) [] H = some (v, H1)) (hdn : ∀ f' l', dnOf dn y = some (f', l') → f' ≤ f ∧ l' ≤ lc) {h : Heap} (S : Sim Z ws k sa n0 H h) {rc rs : Nat} (hc : H1.length - H.length ≤ rc) (hs : tot ws H1 - tot ws H ≤ rs) :
    MetFree l y (head1 (Jvm.Cond.code y b mx r :: wsx) ({ frames := f, cells := rc, slots := rs, locals := lc } : Room)) (fun a U => a = (as.map (ren (adr k sa n0))).toArray ∧ Z.Warmed39 U.vm ∧ U.heap = h) (fun _ _ _ _ _ => True)
      (fun _ U o U' => ∃ w L, o = .returned w ∧ (w = v.map (ren (adr k sa n0)) ∧ Sim Z ws k sa n0 H1 U'.heap ∧ Fr n0 L) ∧ FrameEnd U o U' L (H1.length - H.length) (tot ws H1 - tot ws H)) := by
  refine MetFree.of_bodySF (plainFor_of_name hp) hisR ?_
  intro p e s m args below meth c s₁ Bd hml0 hP hK
  obtain ⟨rfl, hZ, hh⟩ := hP
  have hown : s.vm.findClass y.cls = some m.cls := findClass_of_methodNamed Bd.named
  have hnm := (name_of_methodNamed Bd.named Bd.method).1
  have X0 : Stand p l e ({ frames := f, cells := rc, slots := rs, locals := lc } : Room) s m (as.map (ren (adr k sa n0))).toArray below meth c s₁ [] 0 0 := Stand.of_body Bd
  have e0 : s₁.heap = h := by rw [← hh, Bd.state]; rfl
  obtain ⟨T', locs', X', S', N', hv, go⟩ := ih y b r 0 (entry as mx) [] H v H1 hrun p l e _ s m _ below meth c s₁ [] 0 0 X0 Bd.exec hZ hown hnm Bd.returns Bd.bytes (by rw [entry_len he]; exact hml0.symm) hdn (by rw [e0]; exact S) (Fr.nil n0) (by rw [Nat.zero_add]; exact hc) (by rw [Nat.zero_add]; exact hs) (by rw [e0, ← hh, Nat.add_zero])
  obtain ⟨fs, hr, hrun', hended, hW, hsame⟩ := X'.leave (v := v.map (ren (adr k sa n0))) (fun hn => by rw [Bd.returns] at hn; rw [hv hn]; rfl)
  refine ⟨_, _, castTop (entry_eq _ m as mx) (go fs hr), hrun', hended, _, locs', rfl, ⟨rfl, S', N'⟩, ⟨_, rfl⟩, hW, hsame.mono (Nat.le_of_eq (Nat.zero_add _)) (Nat.le_of_eq (Nat.zero_add _))⟩
set_option maxHeartbeats 2000000 in
theorem snd (hw : ∀ d ∈ ws, d.before a0 Z = true) : ∀ n, Snd Z ws dn k sa n0 n
  | 0 => fun y bytes ret pc ls st H v H' h => by cases h
  | n + 1 => fun y bytes ret pc ls st H v H' h p l e R s m args below meth c T locs cells slots X hx hZ hown hnm hret hby hls hF S N hc hl hz0 => by
    have ih := snd hw n
    rw [run] at h
    split at h
    · cases h
    · rename_i v' ha
      cases h
      have stay : ∀ {v : Option Value}, (ret = none → v = none) → (∀ fs, (∀ (fj : JFrame) (acts : List Action), fj.method = m → fj.locked = none → fj.entered = [] → (doReturn e (T.setTop fj) acts (v.map (ren (adr k sa n0)))).1 = T.setFrames fs) → Steps p.tables e below (T.setTop (fr (adr k sa n0) m pc ls st)) (T.setFrames fs)) →
          Goes p l e R s m args below meth c T Z ws k sa n0 cells slots H (fr (adr k sa n0) m pc ls st) ret v H := fun hv hg => ⟨T, locs, by rw [Nat.sub_self, Nat.sub_self]; exact X, S, N, hv, hg⟩
      rcases act_ret ha with ⟨z, r, t, hd, rfl, rfl, ht, rfl⟩ | ⟨z, hd, rfl, rfl, rfl⟩ | ⟨hd, rfl, rfl, rfl⟩
      · refine stay (fun h => by cases h) fun fs hf => ?_
        rcases ht with rfl | ht
        · exact retOut X hx hret (w := .int z) (rest := r.map (ren (adr k sa n0))) rfl (Or.inl ⟨rfl, Or.inl rfl, z, rfl⟩) (hb hby hd) hf
        · exact retN X hx hret ht (hb hby hd) hf
      · exact stay (fun h => by cases h) fun fs hf => retOut X hx hret (w := .long z) (rest := []) rfl (Or.inr (Or.inl ⟨rfl, rfl, z, rfl⟩)) (hb hby hd) hf
      · exact stay (fun _ => rfl) fun fs hf => X.returnOut hx hret (hb hby hd) hf
    · rename_i pc' ls' st' H1 ha
      have m1 := act_size ha
      have m2 := run_size h
      obtain ⟨ins, len, hd, ⟨g, rfl⟩ | ⟨rfl, g⟩ | ⟨i, sl, a, r, rfl, rfl, ho, rfl, hW, rfl, rfl, rfl, rfl⟩⟩ := act_step ha
      · obtain ⟨T', locs', X', S', N', hv, go⟩ := ih y bytes ret pc' ls' st' H1 v H' h p l e R s m args below meth c T locs cells slots X hx hZ hown hnm hret hby (m1.2.2.trans hls) hF S N hc hl hz0
        exact ⟨T', locs', X', S', N', hv, fun fs hf => xstep_sound X.here hx (adr k sa n0) (hb hby hd) g (go fs hf)⟩
      · obtain ⟨T1, locs1, X1, S1, N1, st1⟩ := hstep_sound (ls := ls') hw X hx hZ hown hnm (hb hby hd) g S N (by dsimp only; omega) (by dsimp only; omega) hz0
        dsimp only at X1 S1 st1
        have z1 := S.1
        have z2 := S1.1
        have z3 := S.2.1
        have G := ih y bytes ret pc' ls' st' H1 v H' h p l e R s m args below meth c T1 locs1 _ _ X1 hx hZ hown hnm hret hby hls hF S1 N1 (by omega) (by omega) (by omega)
        exact Goes.of st1 G ⟨m1.1, m1.2.1⟩ m2
      · unfold oR at ho
        split at ho
        · rename_i y1 b1 mx1 r1 f1 l1 q1 q2 q3
          split at ho
          · rename_i g
            cases ho
            obtain ⟨rfl, g2, g3, rfl, rfl, g4, g5⟩ := g
            obtain ⟨u1, u2⟩ := hF _ _ q3
            have eb : b1 = ⟨#[0xb1]⟩ := by cases b1; cases g3; rfl
            subst eb
            obtain ⟨T1, X1, e1, st1⟩ := initO X hx hZ hown (hw _ (rMth_mem q1)) (hw _ (hasIM_mem g2)) (hw _ (rCode_mem q2)) rfl (g := fr (adr k sa n0) m pc ls' (.ref a :: st')) rfl (by simp [hls]) rfl (hb hby hd) (by omega) (W := l1 - 12) (by show 2 * 0 + _ ≤ _; rw [wsum_ren]; omega) (by omega)
            have G := ih y bytes ret (pc + 3) ls' st' H1 v H' h p l e R s m args below meth c T1 locs cells slots X1 hx hZ hown hnm hret hby hls hF (by rw [e1]; exact S) N hc hl (by rw [e1]; exact hz0)
            obtain ⟨T', locs', X', S', N', hv, go⟩ := G
            exact ⟨T', locs', X', S', N', hv, fun fs hf => st1 _ (go fs hf)⟩
          · cases ho
        · cases ho
    · rename_i y' b r en rest ha
      split at h
      · rename_i v1 H1 h1
        have m1 := run_size h1
        have m2 := run_size h
        obtain ⟨i, mx, na, sl, as, hq, rfl, hen, hW, hk⟩ := act_call ha
        obtain ⟨w1, w2, w3, w4, w5, -, f', l', f, lc, sig, d1, d2, d3, d4, d5, d6⟩ := cR_some hq
        obtain ⟨u1, u2⟩ := hF _ _ d2
        have hM := met_of ih l [] w4 hen h1 (f := f') (lc := l') (fun f2 l2 q => by rw [d1] at q; cases q; exact ⟨Nat.le_refl _, Nat.le_refl _⟩) S (Nat.le_refl _) (Nat.le_refl _)
        have hB := backOf (R := R) (p := p) (e := e) (below := below) (s := s) (args := args) (len := 3) (W := sl) (rm := ({ frames := f', cells := H1.length - H.length, slots := tot ws H1 - tot ws H, locals := l' } : Room)) (Q := fun w h L => w = v1.map (ren (adr k sa n0)) ∧ Sim Z ws k sa n0 H1 h ∧ Fr n0 L) hM hZ (hw _ w2) (hw _ w3) (by show f' + 1 ≤ _; omega) (by show sl + (mx + 11) + l' ≤ _; omega)
        have hsz : (fr (adr k sa n0) m pc ls st).locals.size = c.maxLocals := by simp [hls]
        have hWW : ∀ st' : List Value, wsum st' ≤ sl → 2 * (fr (adr k sa n0) m pc ls st).monitorRoom + ((st'.map (ren (adr k sa n0))).map fun v => v.category).sum ≤ sl := fun st' q => by show 2 * 0 + _ ≤ _; rw [wsum_ren]; omega
        have hback : ∀ (v' : Option Value) (vm₁ : Vm) (B : Pt), Stand p l e R s m args below meth c B.U B.locs B.cells B.slots →
            (∃ L, (v' = v1.map (ren (adr k sa n0)) ∧ Sim Z ws k sa n0 H1 B.U.heap ∧ Fr n0 L) ∧ B.locs = locs ++ L ∧ B.cells = cells + (H1.length - H.length) ∧ B.slots = slots + (tot ws H1 - tot ws H)) →
            (∀ target, Steps p.tables e below (B.U.setTop { fr (adr k sa n0) m pc ls st with pc := pc + 3, stack := v'.toList ++ rest.map (ren (adr k sa n0)) }) target → Steps p.tables e below (T.setTop (fr (adr k sa n0) m pc ls st)) target) →
            Goes p l e R s m args below meth c T Z ws k sa n0 cells slots H (fr (adr k sa n0) m pc ls st) ret v H' := by
          rintro v' vm₁ ⟨T1, L1, k1, n1⟩ X1 ⟨Lc, ⟨rfl, S1, N1⟩, l1, y1, z1⟩ st1
          dsimp only [Pt.U, Pt.locs, Pt.cells, Pt.slots] at X1 l1 y1 z1 st1 S1
          subst l1 y1 z1
          have z1 := S.1
          have z2 := S1.1
          have z3 := S.2.1
          have G := ih y bytes ret (pc + 3) ls (v1.toList ++ rest) H1 v H' h p l e R s m args below meth c T1 _ _ _ X1 hx hZ hown hnm hret hby hls hF S1 (Fr.app N N1) (by omega) (by omega) (by omega)
          refine Goes.of (fun target ht => st1 target ?_) G m1 m2
          have e1 : (v1.toList ++ rest).map (ren (adr k sa n0)) = (v1.map (ren (adr k sa n0))).toList ++ rest.map (ren (adr k sa n0)) := by cases v1 <;> simp
          rw [← e1]; exact ht
        rcases hk with ⟨hd, ws1, hna, rfl⟩ | ⟨a, as', rfl, hna, rfl, wi, ⟨hd, hn, rfl⟩ | ⟨hd, C, vs, hH, hpd⟩⟩
        · obtain ⟨v', vm₁, B, -, X1, P1, st1⟩ := Jvm.LawKit.callS X hx (y := y') hown (mvT hZ (hw _ w1)) (mvT hZ (hw _ ws1)) (mvT hZ (hw _ w3)) (mvT hZ (hw _ w2)) w5 hB (g := fr (adr k sa n0) m pc ls (as.reverse ++ rest)) rfl hsz (argsL := as.map (ren (adr k sa n0))) (rest := rest.map (ren (adr k sa n0)))
            (fun sg hsg => by rw [d3] at hsg; cases hsg; simp [hna, d4]) (by simp) (hWW rest hW) (hb hby hd) (fun _ _ => ⟨rfl, rfl, by show cells + (H1.length - H.length) ≤ _; omega, by show slots + (tot ws H1 - tot ws H) ≤ _; omega⟩)
          exact hback v' vm₁ B X1 P1 st1
        · obtain ⟨v', vm₁, B, -, X1, P1, st1⟩ := X.specialBack hx (y := y') hn hown (mvT hZ (hw _ w1)) (mvT hZ (hw _ wi)) (mvT hZ (hw _ w2)) w5 hB (g := fr (adr k sa n0) m pc ls (as'.reverse ++ .ref a :: rest)) rfl hsz (Steps.refl _) (a := adr k sa n0 a) (argsL := as'.map (ren (adr k sa n0))) (rest := rest.map (ren (adr k sa n0)))
            (fun sg hsg => by rw [d3] at hsg; cases hsg; simp [hna, d4]) (by simp [ren]) (hWW rest hW) (hb hby hd) (fun _ _ => ⟨rfl, rfl, by show cells + (H1.length - H.length) ≤ _; omega, by show slots + (tot ws H1 - tot ws H) ≤ _; omega⟩)
          exact hback v' vm₁ B X1 P1 fun target ht => st1.trans ht
        · have E := (S.2.2.2.2 a _ hH).1
          rcases hpd with ⟨wp, ki, wki⟩ | ⟨wd, wsel, rfl⟩
          · obtain ⟨cq, hq1, hq2⟩ := E.cell
            have hpa : s.PrivateAt y' := Cond.privateMethod_at (mvP hZ (hw _ wp) (args := #[]))
            have hsel : (Jvm.Cond.selects y'.cls y' y').before args s = true := by
              have wz : (Jvm.Cond.instantiable y'.cls ki).before args s = true := mvT hZ (hw _ wki)
              obtain ⟨c2, k2, i1, i2, -, i4, -⟩ := Cond.instantiable_spec wz
              exact selects_self_of_private i1 i2 (Bool.or_eq_false_iff.mp i4).1 hpa (mvT hZ (hw _ wi)) w5
            obtain ⟨v', vm₁, B, -, X1, P1, st1⟩ := X.privateBack hx (y := y') hown (mvT hZ (hw _ w1)) (mvT hZ (hw _ wi)) hsel hpa (mvT hZ (hw _ w2)) w5 hB (g := fr (adr k sa n0) m pc ls (as'.reverse ++ .ref a :: rest)) rfl hsz (Steps.refl _) (a := adr k sa n0 a) hq1 hq2 (argsL := as'.map (ren (adr k sa n0))) (rest := rest.map (ren (adr k sa n0)))
              (fun sg hsg => by rw [d3] at hsg; cases hsg; simp [hna, d4]) (by simp [ren]) (hWW rest hW) (hb hby hd) (fun _ _ => ⟨rfl, rfl, by show cells + (H1.length - H.length) ≤ _; omega, by show slots + (tot ws H1 - tot ws H) ≤ _; omega⟩)
            exact hback v' vm₁ B X1 P1 fun target ht => st1.trans ht
          · obtain ⟨cq, kq, qa, qb, qc⟩ := isOf hZ rfl E
            obtain ⟨v', vm₁, B, -, X1, P1, st1⟩ := X.virtualBack hx (y := y') (z := y') hown (mvT hZ (hw _ w1)) (mvT hZ (hw _ wd)) (notFace_of_selects (args := #[]) (mvT hZ (hw _ wsel))) (mvT hZ (hw _ wsel)) (mvT hZ (hw _ wi)) w5 hB qa qc (g := fr (adr k sa n0) m pc ls (as'.reverse ++ .ref a :: rest)) rfl hsz (Steps.refl _) (argsL := as'.map (ren (adr k sa n0))) (rest := rest.map (ren (adr k sa n0)))
              (fun sg hsg => by rw [d3] at hsg; cases hsg; simp [hna, d4]) (by simp [ren]) (hWW rest hW) (hb hby hd) (fun _ _ => ⟨rfl, rfl, by show cells + (H1.length - H.length) ≤ _; omega, by show slots + (tot ws H1 - tot ws H) ≤ _; omega⟩)
            exact hback v' vm₁ B X1 P1 fun target ht => st1.trans ht
      · cases h
end Snd
end Jvm.Own
namespace Jvm.Own
open Sem ClassFile Op Lib Jvm.Stand Jvm.Free Jvm.LawKit Jvm.RoadKit
/-! OWN 6: from here on no machine is in sight -/
theorem run_succ {ws : Ws} {dn : Dn} {k : Nat} : ∀ {n : Nat} {y : MethodName} {bytes : ByteArray} {ret : Option FieldType} {pc : Nat} {ls : List Slot} {st : List Value} {H : AHeap} {r : Option Value × AHeap}, run ws dn k n y bytes ret pc ls st H = some r → run ws dn k (n + 1) y bytes ret pc ls st H = some r
  | 0, _, _, _, _, _, _, _, _, h => by cases h
  | n + 1, y, bytes, ret, pc, ls, st, H, r, h => by
    rw [run] at h
    rw [run]
    split at h
    · cases h
    · exact h
    · exact run_succ h
    · split at h
      · rename_i v H1 g
        rw [run_succ g]
        exact run_succ h
      · cases h
theorem run_mono {ws : Ws} {dn : Dn} {k n n' : Nat} {y : MethodName} {bytes : ByteArray} {ret : Option FieldType} {pc : Nat} {ls : List Slot} {st : List Value} {H : AHeap} {r : Option Value × AHeap} (hn : n ≤ n') (h : run ws dn k n y bytes ret pc ls st H = some r) : run ws dn k n' y bytes ret pc ls st H = some r := by
  induction hn with
  | refl => exact h
  | step _ ih => exact run_succ ih
/-- from here on a run comes to a return at which Q holds -/
def W (ws : Ws) (dn : Dn) (k : Nat) (y : MethodName) (bytes : ByteArray) (ret : Option FieldType) (pc : Nat) (ls : List Slot) (st : List Value) (H : AHeap) (Q : Option Value → AHeap → Prop) : Prop :=
  ∃ n v H', run ws dn k n y bytes ret pc ls st H = some (v, H') ∧ Q v H'
section
variable {ws : Ws} {dn : Dn} {k : Nat} {y : MethodName} {bytes : ByteArray} {ret : Option FieldType} {pc : Nat} {ls : List Slot} {st : List Value} {H : AHeap} {Q : Option Value → AHeap → Prop}
theorem W_step {pc' : Nat} {ls' : List Slot} {st' : List Value} {H' : AHeap} (h : act ws dn k y bytes ret pc ls st H = some (.inr (.inl (pc', ls', st', H')))) : W ws dn k y bytes ret pc ls st H Q = W ws dn k y bytes ret pc' ls' st' H' Q := by
  refine propext ⟨fun ⟨n, v, H1, h1, h2⟩ => ?_, fun ⟨n, v, H1, h1, h2⟩ => ⟨n + 1, v, H1, by rw [run, h]; exact h1, h2⟩⟩
  cases n with
  | zero => cases h1
  | succ n => rw [run, h] at h1; exact ⟨n, v, H1, h1, h2⟩
theorem W_ret {v : Option Value} (h : act ws dn k y bytes ret pc ls st H = some (.inl v)) : W ws dn k y bytes ret pc ls st H Q = Q v H := by
  refine propext ⟨fun ⟨n, v, H1, h1, h2⟩ => ?_, fun h2 => ⟨1, v, H, by rw [run, h], h2⟩⟩
  cases n with
  | zero => cases h1
  | succ n => rw [run, h] at h1; cases h1; exact h2
theorem W_call {y' : MethodName} {b : ByteArray} {r : Option FieldType} {en : List Slot} {rest : List Value} (h : act ws dn k y bytes ret pc ls st H = some (.inr (.inr (y', b, r, en, rest)))) :
    W ws dn k y bytes ret pc ls st H Q = W ws dn k y' b r 0 en [] H (fun v H1 => W ws dn k y bytes ret (pc + 3) ls (v.toList ++ rest) H1 Q) := by
  refine propext ⟨fun ⟨n, v, H1, h1, h2⟩ => ?_, fun ⟨n, v, H1, h1, n', v', H', h2, h3⟩ => ⟨max n n' + 1, v', H', ?_, h3⟩⟩
  · cases n with
    | zero => cases h1
    | succ n =>
      rw [run, h] at h1
      dsimp only at h1
      split at h1
      · rename_i v' H' g; exact ⟨n, v', H', g, n, v, H1, h1, h2⟩
      · cases h1
  · rw [run, h]
    dsimp only
    rw [run_mono (Nat.le_max_left _ _) h1]
    exact run_mono (Nat.le_max_right _ _) h2
theorem W.mono {Q' : Option Value → AHeap → Prop} (h : W ws dn k y bytes ret pc ls st H Q) (hq : ∀ v H', Q v H' → Q' v H') : W ws dn k y bytes ret pc ls st H Q' := by
  obtain ⟨n, v, H', h1, h2⟩ := h; exact ⟨n, v, H', h1, hq _ _ h2⟩
theorem act_x {ins : Instr} {len pc' : Nat} {ls' : List Slot} {st' : List Value} (hd : decode bytes pc = .ok (ins, len)) (hx : xstep ins len pc ls st = some (pc', ls', st')) : act ws dn k y bytes ret pc ls st H = some (.inr (.inl (pc', ls', st', H))) := by
  unfold act; rw [hd]; dsimp only; rw [hx]
theorem act_h {ins : Instr} {len pc' : Nat} {st' : List Value} {H' : AHeap} (hd : decode bytes pc = .ok (ins, len)) (hx : xstep ins len pc ls st = none) (hh : hstep ws k y ins len pc st H = some (pc', st', H')) : act ws dn k y bytes ret pc ls st H = some (.inr (.inl (pc', ls, st', H'))) := by
  unfold act; rw [hd]; dsimp only; rw [hx]; dsimp only; rw [hh]
theorem act_c {ins : Instr} {len : Nat} (hd : decode bytes pc = .ok (ins, len)) (hx : xstep ins len pc ls st = none) (hh : hstep ws k y ins len pc st H = none) : act ws dn k y bytes ret pc ls st H = cstep ws dn y ret ins len pc ls st H := by
  unfold act; rw [hd]; dsimp only; rw [hx]; dsimp only; rw [hh]
/-- a plain step -/
theorem w_x {ins : Instr} {len pc' : Nat} {ls' : List Slot} {st' : List Value} (hd : decode bytes pc = .ok (ins, len)) (hx : xstep ins len pc ls st = some (pc', ls', st')) : W ws dn k y bytes ret pc ls st H Q = W ws dn k y bytes ret pc' ls' st' H Q := W_step (act_x hd hx)
/-- a conditional branch -/
theorem w_if {cd : ClassFile.Cond} {o : Int} {x : Int32} {t : Nat} {P : Prop} [Decidable P] (hd : decode bytes pc = .ok (.ifCond cd o, 3)) (hp : ifCond.holds cd x = decide P) (hj : jmp pc o = some t) :
    W ws dn k y bytes ret pc ls (.int x :: st) H Q = if P then W ws dn k y bytes ret t ls st H Q else W ws dn k y bytes ret (pc + 3) ls st H Q := by
  split
  · exact w_x hd (by simp only [xstep, chk, br, hp, hj, if_true]; simp [*])
  · exact w_x hd (by simp only [xstep, chk, br, hp, hj, if_true]; simp [*])
theorem w_icmp {cd : ClassFile.Cond} {o : Int} {x1 x2 : Int32} {t : Nat} {P : Prop} [Decidable P] (hd : decode bytes pc = .ok (.if_icmp cd o, 3)) (hp : if_icmp.holds cd x1 x2 = decide P) (hj : jmp pc o = some t) :
    W ws dn k y bytes ret pc ls (.int x2 :: .int x1 :: st) H Q = if P then W ws dn k y bytes ret t ls st H Q else W ws dn k y bytes ret (pc + 3) ls st H Q := by
  split
  · exact w_x hd (by simp only [xstep, chk, br, hp, hj, if_true]; simp [*])
  · exact w_x hd (by simp only [xstep, chk, br, hp, hj, if_true]; simp [*])
theorem w_get {i j : Nat} {a : Nat} {C : String} {vs : List Value} {v : Value} (hd : decode bytes pc = .ok (.getfield i, 3)) (hr : gfR ws y.cls i = some (C, j)) (ho : H[a]? = some (.object C, vs)) (hv : vs[j]? = some v) :
    W ws dn k y bytes ret pc ls (.ref a :: st) H Q = W ws dn k y bytes ret (pc + 3) ls (v :: st) H Q :=
  W_step (act_h hd rfl (by simp only [hstep, chk, hGet, hr, ho, hv, if_true, Option.map_some]))
theorem w_put {i j : Nat} {a : Nat} {C : String} {ty : FieldType} {vs : List Value} {v v' : Value} {H' : AHeap} (hd : decode bytes pc = .ok (.putfield i, 3)) (hr : pfR ws y.cls y.name i = some (C, j, ty)) (ho : H[a]? = some (.object C, vs)) (hk : k ≤ a) (hj : j < vs.length) (hv : putv ty v = some v') (hH : H.set a (.object C, vs.set j v') = H') :
    W ws dn k y bytes ret pc ls (v :: .ref a :: st) H Q = W ws dn k y bytes ret (pc + 3) ls st H' Q :=
  W_step (act_h hd rfl (by simp only [hstep, chk, hPut, hr, ho, hv, if_true, true_and, hk, hj, Option.map_some, hH, and_self]))
theorem w_new {i : Nat} {C : String} (hd : decode bytes pc = .ok (.new i, 3)) (hr : hNew ws y.cls i pc H st = some (pc + 3, .ref H.length :: st, H ++ [(.object C, (olay ws C).map dflt)])) :
    W ws dn k y bytes ret pc ls st H Q = W ws dn k y bytes ret (pc + 3) ls (.ref H.length :: st) (H ++ [(.object C, (olay ws C).map dflt)]) Q :=
  W_step (act_h hd rfl (by simp only [hstep, chk, if_true]; exact hr))
theorem w_newA {aty : ArrayType} {n : Int32} {ty : FieldType} (hd : decode bytes pc = .ok (.newarray aty, 2)) (ht : newarray.typeOf aty = ty) (hr : hasArr ws ty = true) (hn : ¬ n < 0) (hb : n.toNatClampNeg * 8 ≤ 536870912) :
    W ws dn k y bytes ret pc ls (.int n :: st) H Q = W ws dn k y bytes ret (pc + 2) ls (.ref H.length :: st) (H ++ [(.array ty, List.replicate n.toNatClampNeg (defaultValue ty))]) Q := by
  subst ht
  exact W_step (act_h hd rfl (by simp only [hstep, chk, hNewA, hr, hn, hb, if_true, not_false_eq_true, and_self]))
/-- may the instruction read an array of that kind? -/
def ldOk : Instr → FieldType → Bool
  | .iaload, .int | .caload, .char | .laload, .long | .baload, .byte | .baload, .boolean => true
  | _, _ => false
def stOk : Instr → FieldType → Bool
  | .iastore, .int | .castore, .char | .lastore, .long | .bastore, .byte | .bastore, .boolean => true
  | _, _ => false
theorem w_ald {ins : Instr} {a : Nat} {j : Int32} {ty : FieldType} {vs : List Value} {v : Value} (hd : decode bytes pc = .ok (ins, 1)) (hi : ldOk ins ty = true) (ho : H[a]? = some (.array ty, vs)) (hj : ¬ j < 0) (hv : vs[j.toNatClampNeg]? = some v) :
    W ws dn k y bytes ret pc ls (.int j :: .ref a :: st) H Q = W ws dn k y bytes ret (pc + 1) ls (v :: st) H Q := by
  unfold ldOk at hi
  split at hi
  all_goals first
    | exact W_step (act_h hd rfl (by simp only [hstep, chk, hLd, okT, okB, ho, hv, hj, if_true, Option.map_some, decide_true, not_false_eq_true, and_self, Bool.or_true, Bool.true_or]))
    | cases hi
theorem w_ast {ins : Instr} {a : Nat} {j : Int32} {ty : FieldType} {vs : List Value} {v v' : Value} {H' : AHeap} (hd : decode bytes pc = .ok (ins, 1)) (hi : stOk ins ty = true) (ho : H[a]? = some (.array ty, vs)) (hk : k ≤ a) (hj : ¬ j < 0) (hl : j.toNatClampNeg < vs.length) (hv : putv ty v = some v') (hH : H.set a (.array ty, vs.set j.toNatClampNeg v') = H') :
    W ws dn k y bytes ret pc ls (v :: .int j :: .ref a :: st) H Q = W ws dn k y bytes ret (pc + 1) ls st H' Q := by
  unfold stOk at hi
  split at hi
  all_goals first
    | exact W_step (act_h hd rfl (by simp only [hstep, chk, hSt, okT, okB, ho, hv, hj, hk, hl, hH, if_true, Option.map_some, decide_true, not_false_eq_true, and_self, Bool.or_true, Bool.true_or]))
    | cases hi
theorem w_len {a : Nat} {ty : FieldType} {vs : List Value} (hd : decode bytes pc = .ok (.arraylength, 1)) (ho : H[a]? = some (.array ty, vs)) :
    W ws dn k y bytes ret pc ls (.ref a :: st) H Q = W ws dn k y bytes ret (pc + 1) ls (.int vs.length.toInt32 :: st) H Q :=
  W_step (act_h hd rfl (by simp only [hstep, chk, hLen, ho, if_true]))
theorem w_ldc {i : Nat} {v : Int32} (hd : decode bytes pc = .ok (.ldc i, 2)) (hr : rCon ws y.cls i = some v) : W ws dn k y bytes ret pc ls st H Q = W ws dn k y bytes ret (pc + 2) ls (.int v :: st) H Q :=
  W_step (act_h hd rfl (by simp only [hstep, chk, hr, if_true, Option.map_some]))
theorem w_ldcw {i : Nat} {v : Int32} (hd : decode bytes pc = .ok (.ldc_w i, 3)) (hr : rCon ws y.cls i = some v) : W ws dn k y bytes ret pc ls st H Q = W ws dn k y bytes ret (pc + 3) ls (.int v :: st) H Q :=
  W_step (act_h hd rfl (by simp only [hstep, chk, hr, if_true, Option.map_some]))
theorem w_ldc2 {i : Nat} {v : Int64} (hd : decode bytes pc = .ok (.ldc2_w i, 3)) (hr : rConL ws y.cls i = some v) : W ws dn k y bytes ret pc ls st H Q = W ws dn k y bytes ret (pc + 3) ls (.long v :: st) H Q :=
  W_step (act_h hd rfl (by simp only [hstep, chk, hr, if_true, Option.map_some]))
theorem w_iret {z : Int32} (hd : decode bytes pc = .ok (.ireturn, 1)) (hr : ret = some .int) : W ws dn k y bytes ret pc ls (.int z :: st) H Q = Q (some (.int z)) H := by
  subst hr; exact W_ret (by rw [act_c hd rfl rfl]; rfl)
theorem w_iretN {z : Int32} {t : FieldType} (hd : decode bytes pc = .ok (.ireturn, 1)) (hr : ret = some t) (ht : t = .int ∨ t = .boolean ∨ t = .byte ∨ t = .char ∨ t = .short) : W ws dn k y bytes ret pc ls (.int z :: st) H Q = Q (some (.int (nar t z))) H := by
  subst hr; exact W_ret (by rw [act_c hd rfl rfl]; simp only [cstep, chk, if_true, ht])
theorem w_lret {z : Int64} (hd : decode bytes pc = .ok (.lreturn, 1)) (hr : ret = some .long) : W ws dn k y bytes ret pc ls [.long z] H Q = Q (some (.long z)) H := by
  subst hr; exact W_ret (by rw [act_c hd rfl rfl]; rfl)
theorem w_vret (hd : decode bytes pc = .ok (.return_, 1)) (hr : ret = none) : W ws dn k y bytes ret pc ls [] H Q = Q none H := by
  subst hr; exact W_ret (by rw [act_c hd rfl rfl]; rfl)
theorem w_obj {i sl : Nat} {a : Nat} (hd : decode bytes pc = .ok (.invokespecial i, 3)) (hr : oR ws dn y i = some sl) (hw : wsum st ≤ sl) : W ws dn k y bytes ret pc ls (.ref a :: st) H Q = W ws dn k y bytes ret (pc + 3) ls st H Q :=
  W_step (by rw [act_c hd rfl rfl]; simp only [cstep, chk, if_true, hr, hw])
theorem w_stat {i mx na sl : Nat} {y' : MethodName} {b : ByteArray} {r : Option FieldType} {as rest : List Value} {en : List Slot} (hd : decode bytes pc = .ok (.invokestatic i, 3)) (hr : sR ws dn y i = some (y', b, mx, r, na, sl)) (hn : as.length = na) (hw : wsum rest ≤ sl) (he : (ent as.reverse).length ≤ mx) (hen : entry as.reverse mx = en) :
    W ws dn k y bytes ret pc ls (as ++ rest) H Q = W ws dn k y' b r 0 en [] H (fun v H1 => W ws dn k y bytes ret (pc + 3) ls (v.toList ++ rest) H1 Q) := by
  subst hn hen
  have e1 : (as ++ rest).take as.length = as := by simp
  have e2 : (as ++ rest).drop as.length = rest := by simp
  exact W_call (by rw [act_c hd rfl rfl]; simp only [cstep, chk, if_true, hr, e1, e2, hw, he, List.length_append, Nat.le_add_right, and_self])
theorem w_spec {i mx na sl a : Nat} {y' : MethodName} {b : ByteArray} {r : Option FieldType} {as rest : List Value} {en : List Slot} (hd : decode bytes pc = .ok (.invokespecial i, 3)) (h0 : oR ws dn y i = none) (hr : nR ws dn y i = some (y', b, mx, r, na, sl)) (hn : as.length = na) (hw : wsum rest ≤ sl) (he : (ent (.ref a :: as.reverse)).length ≤ mx) (hen : entry (.ref a :: as.reverse) mx = en) :
    W ws dn k y bytes ret pc ls (as ++ .ref a :: rest) H Q = W ws dn k y' b r 0 en [] H (fun v H1 => W ws dn k y bytes ret (pc + 3) ls (v.toList ++ rest) H1 Q) := by
  subst hn hen
  have e1 : (as ++ .ref a :: rest).take as.length = as := by simp
  have e2 : (as ++ .ref a :: rest).drop as.length = .ref a :: rest := by simp
  exact W_call (by rw [act_c hd rfl rfl]; simp only [cstep, chk, if_true, h0, hr, e1, e2, hw, he, List.length_append, Nat.le_add_right, and_self])
theorem w_virt {i mx na sl a : Nat} {pv : Bool} {y' : MethodName} {b : ByteArray} {r : Option FieldType} {as rest : List Value} {en : List Slot} {C : String} {vs : List Value} (hd : decode bytes pc = .ok (.invokevirtual i, 3)) (hr : vR ws dn y i = some (pv, y', b, mx, r, na, sl)) (ho : H[a]? = some (.object C, vs)) (hC : C = y'.cls) (hn : as.length = na) (hw : wsum rest ≤ sl) (he : (ent (.ref a :: as.reverse)).length ≤ mx) (hen : entry (.ref a :: as.reverse) mx = en) :
    W ws dn k y bytes ret pc ls (as ++ .ref a :: rest) H Q = W ws dn k y' b r 0 en [] H (fun v H1 => W ws dn k y bytes ret (pc + 3) ls (v.toList ++ rest) H1 Q) := by
  subst hn hen hC
  have e1 : (as ++ .ref a :: rest).take as.length = as := by simp
  have e2 : (as ++ .ref a :: rest).drop as.length = .ref a :: rest := by simp
  exact W_call (by rw [act_c hd rfl rfl]; simp only [cstep, chk, if_true, hr, e1, e2, ho, hw, he, List.length_append, Nat.le_add_right, and_self, or_true])
end
theorem law_of {Z : State} {a0 : Array Value} {ws : Ws} {dn : Dn} {k sa n0 : Nat} (hw : ∀ d ∈ ws, d.before a0 Z = true) (l : Launch) {y : MethodName} {b : ByteArray} {mx f lc rc rs : Nat} {r : Option FieldType} (wsx : List Jvm.Cond) (hp : Jvm.plainName y.cls = true) {as : List Value} (he : (ent as).length ≤ mx) {H : AHeap}
    (hW : W ws dn k y b r 0 (entry as mx) [] H (fun v H1 => v = some (.int 1) ∧ H1.length - H.length ≤ rc ∧ tot ws H1 - tot ws H ≤ rs)) (hdn : ∀ f' l', dnOf dn y = some (f', l') → f' ≤ f ∧ l' ≤ lc) {h : Heap} (S : Sim Z ws k sa n0 H h) :
    MetFree l y (head1 (Jvm.Cond.code y b mx r :: wsx) ({ frames := f, cells := rc, slots := rs, locals := lc } : Room)) (fun a U => a = (as.map (ren (adr k sa n0))).toArray ∧ Z.Warmed39 U.vm ∧ U.heap = h) (fun _ _ _ _ _ => True)
      (fun _ U o U' => ∃ w L, o = .returned w ∧ (w = some (.int 1) ∧ Fr n0 L) ∧ FrameEnd U o U' L rc rs) := by
  obtain ⟨n, v, H1, h1, rfl, h3, h4⟩ := hW
  have M := met_of (snd hw n) l wsx hp he h1 hdn S h3 h4
  intro p e ha hc hk s m args below hf happ hP hK
  obtain ⟨n', o, g1, g2, g3, w, L, rfl, ⟨rfl, -, N⟩, F⟩ := M p e ha hc hk s m args below hf happ hP hK
  exact ⟨n', _, g1, g2, g3, _, L, rfl, ⟨rfl, N⟩, F.1, F.2.1, F.2.2.mono h3 h4⟩
/-- the start of a law whose arguments hold no reference -/
theorem Sim.empty (Z : State) (ws : Ws) (h : Heap) : Sim Z ws 0 0 h.size [] h :=
  ⟨by simp, Nat.le_refl _, Nat.zero_le _, (fun q => absurd q (by decide)), (fun i o q => by simp at q)⟩
/-- the start of a law over one array of ints -/
theorem Sim.script {Z : State} (ws : Ws) {h : Heap} {a : Addr} {c : Cell} {vs : List Int32} (A : Arr Z h a c .int) (e : c.slots = (vs.map Value.int).toArray) : Sim Z ws 1 a h.size [(.array .int, vs.map Value.int)] h := by
  refine ⟨by simp, Nat.le_refl _, Nat.le_refl _, fun _ => A.lt, fun i o q => ?_⟩
  cases i with
  | zero =>
    cases q
    refine ⟨c, A, e.trans ?_⟩
    rw [List.map_map]; rfl
  | succ i => cases q
end Jvm.Own
namespace Jvm.Own
open Sem ClassFile Op Lib Jvm.Stand Jvm.Free Jvm.LawKit Jvm.RoadKit
/-! OWN 7: states of an object as plain functions -/
def ou {α : Type} (s : Nat → α) (i : Nat) (v : α) : Nat → α := fun j => if j = i then v else s j
theorem ou_a {α : Type} (s : Nat → α) (i : Nat) (v : α) (j : Nat) : ou s i v j = if j = i then v else s j := rfl
def pad (b : Nat) (pre : AHeap) : AHeap := (pre ++ List.replicate b (FieldType.int, [])).take b
theorem pad_len (b : Nat) (pre : AHeap) : (pad b pre).length = b := by simp [pad]
theorem pad_eq {b : Nat} {pre : AHeap} (h : pre.length = b) : pad b pre = pre := by subst h; simp [pad]
theorem pad_0 (pre : AHeap) : pad 0 pre = [] := by simp [pad]
theorem tot_cons (ws : Ws) (o : FieldType × List Value) (r : AHeap) : tot ws (o :: r) = cost ws o + tot ws r := by simp [tot]
theorem tot_append (ws : Ws) (a r : AHeap) : tot ws (a ++ r) = tot ws a + tot ws r := by simp [tot]
theorem tot_nil (ws : Ws) : tot ws [] = 0 := rfl
theorem pad_get (b : Nat) (pre r : AHeap) (i : Nat) : (pad b pre ++ r)[b + i]? = r[i]? := by
  rw [List.getElem?_append_right (by rw [pad_len]; omega), pad_len]; congr 1; omega
theorem pad_get0 (b : Nat) (pre r : AHeap) : (pad b pre ++ r)[b]? = r[0]? := pad_get b pre r 0
theorem pad_set (b : Nat) (pre r : AHeap) (i : Nat) (o : FieldType × List Value) : (pad b pre ++ r).set (b + i) o = pad b pre ++ r.set i o := by
  rw [List.set_append_right _ _ (by rw [pad_len]; omega), pad_len]; congr 2; omega
theorem pad_set0 (b : Nat) (pre r : AHeap) (o : FieldType × List Value) : (pad b pre ++ r).set b o = pad b pre ++ r.set 0 o := pad_set b pre r 0 o
theorem rCode_of {ws : Ws} {y : MethodName} {b : ByteArray} {m i : Nat} {r : Option FieldType} (h : ws[i]? = some (.code y b m r)) (h2 : (ws.take i).all (fun d => match d with | .code z _ _ _ => !decide (z = y) | _ => true) = true) : rCode ws y = some (b, m, r) := by
  have e : ws = ws.take i ++ (.code y b m r :: ws.drop (i + 1)) := by
    obtain ⟨hi, hg⟩ := List.getElem?_eq_some_iff.mp h
    rw [← hg, ← List.drop_eq_getElem_cons hi, List.take_append_drop]
  unfold rCode
  rw [e, List.findSome?_append]
  have e1 : (ws.take i).findSome? (fun d => match d with | .code z b m r => if z = y then some (b, m, r) else none | _ => none) = none := by
    rw [List.findSome?_eq_none_iff]
    intro d hd
    have q := List.all_eq_true.mp h2 d hd
    split
    · rename_i z b' m' r'
      simp at q
      simp [q]
    · rfl
  rw [e1]
  simp
theorem cR_of {ws : Ws} {dn : Dn} {y y' : MethodName} {b : ByteArray} {mx i f' l' f l na sl : Nat} {r : Option FieldType} {sig : MethodDescriptor} (h1 : rMth ws y.cls i = some y') (h2 : rCode ws y' = some (b, mx, r)) (h3 : dnOf dn y' = some (f', l')) (h4 : dnOf dn y = some (f, l)) (h5 : parseMethodDescriptor y'.desc = some sig)
    (h6 : decide (hasInit ws y'.cls = true ∧ Jvm.plainName y'.cls = true ∧ y'.cls ≠ "java/lang/invoke/MethodHandle" ∧ y'.cls ≠ "java/lang/invoke/VarHandle" ∧ f' + 1 ≤ f ∧ mx + 11 + l' ≤ l) = true) (h7 : sig.parameters.length = na) (h8 : l - (mx + 11 + l') = sl) : cR ws dn y i = some (y', b, mx, r, na, sl) := by
  subst h7 h8
  unfold cR
  rw [h1]; dsimp only
  rw [h2, h3, h4, h5]; dsimp only
  rw [if_pos (of_decide_eq_true h6)]
theorem sR_of {ws : Ws} {dn : Dn} {y : MethodName} {i : Nat} {q : MethodName × ByteArray × Nat × Option FieldType × Nat × Nat} (h : cR ws dn y i = some q) (hs : hasStat ws q.1 = true) : sR ws dn y i = some q := by
  unfold sR; rw [h]; dsimp only; rw [if_pos hs]
theorem nR_of {ws : Ws} {dn : Dn} {y : MethodName} {i : Nat} {q : MethodName × ByteArray × Nat × Option FieldType × Nat × Nat} (h : cR ws dn y i = some q) (h1 : q.1.name = "<init>") (h2 : hasIM ws q.1 = true) (h3 : q.2.2.2.1 = none) : nR ws dn y i = some q := by
  unfold nR; rw [h]; dsimp only; rw [if_pos ⟨h1, h2, h3⟩]
theorem vR_of {ws : Ws} {dn : Dn} {y : MethodName} {i : Nat} {q : MethodName × ByteArray × Nat × Option FieldType × Nat × Nat} (h : cR ws dn y i = some q) (h1 : hasIM ws q.1 = true) (h2 : decide (hasPriv ws q.1 = true ∧ (rInst ws q.1.cls).isSome = true) = false) (h3 : decide (hasDecl ws q.1 = true ∧ hasSel ws q.1 = true) = true) : vR ws dn y i = some (false, q) := by
  unfold vR; rw [h]; dsimp only; rw [if_pos h1, if_neg (of_decide_eq_false h2), if_pos (of_decide_eq_true h3)]
theorem pR_of {ws : Ws} {dn : Dn} {y : MethodName} {i : Nat} {q : MethodName × ByteArray × Nat × Option FieldType × Nat × Nat} (h : cR ws dn y i = some q) (h1 : hasIM ws q.1 = true) (h2 : decide (hasPriv ws q.1 = true ∧ (rInst ws q.1.cls).isSome = true) = true) : vR ws dn y i = some (true, q) := by
  unfold vR; rw [h]; dsimp only; rw [if_pos h1, if_pos (of_decide_eq_true h2)]
def inB {α : Type} (j : Int32) (l : List α) : Prop := ¬ j < 0 ∧ j.toNatClampNeg < l.length
def getA (l : List Int32) (j : Int32) : Int32 := l.getD j.toNatClampNeg 0
def getL (l : List Int64) (j : Int32) : Int64 := l.getD j.toNatClampNeg 0
def setA {α : Type} (l : List α) (j : Int32) (v : α) : List α := l.set j.toNatClampNeg v
def c1 : Slot → Bool
  | .unset => true
  | .second => false
  | .val v => v.category == 1
theorem c1_u : c1 .unset = true := rfl
theorem c1_i (x : Int32) : c1 (.val (.int x)) = true := rfl
theorem c1_r (a : Nat) : c1 (.val (.ref a)) = true := rfl
theorem c1_n : c1 (.val .null) = true := rfl
theorem i_eq (x y : Int32) : if_icmp.holds .eq x y = decide (x = y) := by simp only [if_icmp.holds]; by_cases h : x = y <;> simp [h]
theorem i_ne (x y : Int32) : if_icmp.holds .ne x y = !decide (x = y) := by simp only [if_icmp.holds]; by_cases h : x = y <;> simp [h]
theorem i_lt (x y : Int32) : if_icmp.holds .lt x y = decide (x < y) := rfl
theorem i_gt (x y : Int32) : if_icmp.holds .gt x y = decide (y < x) := rfl
theorem i_ge (x y : Int32) : if_icmp.holds .ge x y = !decide (x < y) := by
  show decide (y ≤ x) = _
  have e1 : (y ≤ x) ↔ ¬ (x < y) := by rw [Int32.le_iff_toInt_le, Int32.lt_iff_toInt_lt]; omega
  by_cases h : x < y
  · have : ¬ y ≤ x := fun g => e1.mp g h
    simp [h, this]
  · have := e1.mpr h
    simp [h, this]
theorem i_le (x y : Int32) : if_icmp.holds .le x y = !decide (y < x) := i_ge y x
theorem z_eq (x : Int32) : ifCond.holds .eq x = decide (x = 0) := i_eq x 0
theorem z_ne (x : Int32) : ifCond.holds .ne x = !decide (x = 0) := i_ne x 0
theorem z_lt (x : Int32) : ifCond.holds .lt x = decide (x < 0) := rfl
theorem z_gt (x : Int32) : ifCond.holds .gt x = decide (0 < x) := rfl
theorem z_ge (x : Int32) : ifCond.holds .ge x = !decide (x < 0) := i_ge x 0
theorem z_le (x : Int32) : ifCond.holds .le x = !decide (0 < x) := i_le x 0
theorem nb0 : nar .boolean 0 = 0 := by decide
theorem nb1 : nar .boolean 1 = 1 := by decide
section
variable {ws : Ws} {dn : Dn} {k : Nat} {y : MethodName} {bytes : ByteArray} {ret : Option FieldType} {pc : Nat} {ls : List Slot} {st : List Value} {H : AHeap} {Q : Option Value → AHeap → Prop}
theorem W_stuck (h : act ws dn k y bytes ret pc ls st H = none) : W ws dn k y bytes ret pc ls st H Q = False := by
  refine propext ⟨fun ⟨n, v, H1, h1, h2⟩ => ?_, False.elim⟩
  cases n with
  | zero => cases h1
  | succ n => rw [run, h] at h1; cases h1
theorem stl_c1 {i : Nat} {o : Slot} {v : Value} (ho : ls[i]? = some o) (hc : c1 o = true) (hv : v.category = 1) : stl ls i v = some (ls.set i (.val v)) := by
  have h := XS.store1 (l := ls.toArray) (i := i) (v := v) (o := o) (by simpa using ho) (by
    cases o with
    | unset => exact Or.inl rfl
    | second => cases hc
    | val w => exact Or.inr ⟨w, rfl, by simpa [c1] using hc⟩) hv
  unfold stl
  rw [h]; simp
/-- a store of one word -/
theorem w_st {ins : Instr} {len i : Nat} {o : Slot} {v : Value} {p : Value → Bool} {nx : Nat} {ls' : List Slot} (hd : decode bytes pc = .ok (ins, len)) (hx : xstep ins len pc ls (v :: st) = stV p nx i ls (v :: st)) (hp : p v = true) (hv : v.category = 1) (ho : ls[i]? = some o) (hs : ls.set i (.val v) = ls') (hc : c1 o = true) :
    W ws dn k y bytes ret pc ls (v :: st) H Q = W ws dn k y bytes ret nx ls' st H Q := by
  subst hs
  exact w_x hd (by rw [hx]; simp only [stV, hp, if_true, stl_c1 ho hc hv, Option.map_some])
theorem w_iinc {i : Nat} {c : Int} {x z : Int32} {ls' : List Slot} (hd : decode bytes pc = .ok (.iinc i c, 3)) (ho : ls[i]? = some (.val (.int x))) (hz : Int32.ofInt c = z) (hs : ls.set i (.val (.int (x + z))) = ls') :
    W ws dn k y bytes ret pc ls st H Q = W ws dn k y bytes ret (pc + 3) ls' st H Q := by
  subst hs hz
  exact w_x hd (by simp only [xstep, chk, if_true, ho, stl_c1 (v := .int (x + Int32.ofInt c)) ho rfl rfl, Option.map_some])
theorem w_con {ins : Instr} {len nx : Nat} {v v' : Value} (hd : decode bytes pc = .ok (ins, len)) (hx : xstep ins len pc ls st = some (nx, ls, v :: st)) (hv : v = v') : W ws dn k y bytes ret pc ls st H Q = W ws dn k y bytes ret nx ls (v' :: st) H Q := by
  subst hv; exact w_x hd hx
theorem w_ifN {cd : ClassFile.Cond} {o : Int} {x : Int32} {t : Nat} {P : Prop} [Decidable P] (hd : decode bytes pc = .ok (.ifCond cd o, 3)) (hp : ifCond.holds cd x = !decide P) (hj : jmp pc o = some t) :
    W ws dn k y bytes ret pc ls (.int x :: st) H Q = if P then W ws dn k y bytes ret (pc + 3) ls st H Q else W ws dn k y bytes ret t ls st H Q := by
  split
  · exact w_x hd (by simp only [xstep, chk, br, hp, hj, if_true]; simp [*])
  · exact w_x hd (by simp only [xstep, chk, br, hp, hj, if_true]; simp [*])
theorem w_icmpN {cd : ClassFile.Cond} {o : Int} {x1 x2 : Int32} {t : Nat} {P : Prop} [Decidable P] (hd : decode bytes pc = .ok (.if_icmp cd o, 3)) (hp : if_icmp.holds cd x1 x2 = !decide P) (hj : jmp pc o = some t) :
    W ws dn k y bytes ret pc ls (.int x2 :: .int x1 :: st) H Q = if P then W ws dn k y bytes ret (pc + 3) ls st H Q else W ws dn k y bytes ret t ls st H Q := by
  split
  · exact w_x hd (by simp only [xstep, chk, br, hp, hj, if_true]; simp [*])
  · exact w_x hd (by simp only [xstep, chk, br, hp, hj, if_true]; simp [*])
theorem ld_stuck {ins : Instr} {a : Nat} {j : Int32} {ty : FieldType} {vs : List Value} (hd : decode bytes pc = .ok (ins, 1)) (hi : ldOk ins ty = true) (ho : H[a]? = some (.array ty, vs)) (hj : ¬ (¬ j < 0 ∧ j.toNatClampNeg < vs.length)) : act ws dn k y bytes ret pc ls (.int j :: .ref a :: st) H = none := by
  have hv : j < 0 ∨ vs[j.toNatClampNeg]? = none := by
    by_cases q : j < 0
    · exact Or.inl q
    · exact Or.inr (List.getElem?_eq_none (Nat.le_of_not_lt fun g => hj ⟨q, g⟩))
  unfold ldOk at hi
  split at hi
  all_goals first
    | (rw [act_c hd rfl (by rcases hv with q | q <;> simp [hstep, chk, hLd, okT, okB, ho, q])]; rfl)
    | cases hi
theorem st_stuck {ins : Instr} {a : Nat} {j : Int32} {ty : FieldType} {vs : List Value} {v : Value} (hd : decode bytes pc = .ok (ins, 1)) (hi : stOk ins ty = true) (ho : H[a]? = some (.array ty, vs)) (hj : ¬ (¬ j < 0 ∧ j.toNatClampNeg < vs.length)) : act ws dn k y bytes ret pc ls (v :: .int j :: .ref a :: st) H = none := by
  have hv : ¬ (¬ j < 0 ∧ j.toNatClampNeg < vs.length) := hj
  unfold stOk at hi
  split at hi
  all_goals first
    | (rw [act_c hd rfl (by simp only [hstep, chk, hSt, okT, okB, ho, if_true]; rw [if_neg (fun q => hv q.2.2)])]; rfl)
    | cases hi
theorem w_ild {ins : Instr} {a : Nat} {j : Int32} {ty : FieldType} {l : List Int32} (hd : decode bytes pc = .ok (ins, 1)) (hi : ldOk ins ty = true) (ho : H[a]? = some (.array ty, l.map Value.int)) :
    W ws dn k y bytes ret pc ls (.int j :: .ref a :: st) H Q = (inB j l ∧ W ws dn k y bytes ret (pc + 1) ls (.int (getA l j) :: st) H Q) := by
  by_cases h : inB j l
  · rw [w_ald hd hi ho h.1 (v := .int (getA l j)) (by simp [getA, h.2])]
    simp [h]
  · rw [W_stuck (ld_stuck hd hi ho (by simpa [inB] using h))]
    simp [h]
theorem w_lld {a : Nat} {j : Int32} {l : List Int64} (hd : decode bytes pc = .ok (.laload, 1)) (ho : H[a]? = some (.array .long, l.map Value.long)) :
    W ws dn k y bytes ret pc ls (.int j :: .ref a :: st) H Q = (inB j l ∧ W ws dn k y bytes ret (pc + 1) ls (.long (getL l j) :: st) H Q) := by
  by_cases h : inB j l
  · rw [w_ald hd rfl ho h.1 (v := .long (getL l j)) (by simp [getL, h.2])]
    simp [h]
  · rw [W_stuck (ld_stuck hd rfl ho (by simpa [inB] using h))]
    simp [h]
theorem w_ist {ins : Instr} {a : Nat} {j v v' : Int32} {ty : FieldType} {l : List Int32} {H' : AHeap} (hd : decode bytes pc = .ok (ins, 1)) (hi : stOk ins ty = true) (ho : H[a]? = some (.array ty, l.map Value.int)) (hk : k ≤ a) (hv : putv ty (.int v) = some (.int v')) (hH : H.set a (.array ty, (setA l j v').map Value.int) = H') :
    W ws dn k y bytes ret pc ls (.int v :: .int j :: .ref a :: st) H Q = (inB j l ∧ W ws dn k y bytes ret (pc + 1) ls st H' Q) := by
  by_cases h : inB j l
  · rw [w_ast (H' := H') hd hi ho hk h.1 (by simpa using h.2) hv (by rw [← hH, setA, List.map_set])]
    simp [h]
  · rw [W_stuck (st_stuck hd hi ho (by simpa [inB] using h))]
    simp [h]
theorem w_lst {a : Nat} {j : Int32} {v : Int64} {l : List Int64} {H' : AHeap} (hd : decode bytes pc = .ok (.lastore, 1)) (ho : H[a]? = some (.array .long, l.map Value.long)) (hk : k ≤ a) (hH : H.set a (.array .long, (setA l j v).map Value.long) = H') :
    W ws dn k y bytes ret pc ls (.long v :: .int j :: .ref a :: st) H Q = (inB j l ∧ W ws dn k y bytes ret (pc + 1) ls st H' Q) := by
  by_cases h : inB j l
  · rw [w_ast (H' := H') hd rfl ho hk h.1 (by simpa using h.2) rfl (by rw [← hH, setA, List.map_set])]
    simp [h]
  · rw [W_stuck (st_stuck hd rfl ho (by simpa [inB] using h))]
    simp [h]
theorem w_div {ins : Instr} {f : Int32 → Int32 → Int32} {x z : Int32} (hd : decode bytes pc = .ok (ins, 1)) (hx : ∀ st, xstep ins 1 pc ls st = d2 f (pc + 1) ls st) (hh : hstep ws k y ins 1 pc (.int z :: .int x :: st) H = none) (hc : cstep ws dn y ret ins 1 pc ls (.int z :: .int x :: st) H = none) :
    W ws dn k y bytes ret pc ls (.int z :: .int x :: st) H Q = (z ≠ 0 ∧ W ws dn k y bytes ret (pc + 1) ls (.int (f x z) :: st) H Q) := by
  by_cases h : z = 0
  · rw [W_stuck (by rw [act_c hd (by rw [hx]; simp [d2, h]) hh, hc])]; simp [h]
  · rw [w_x (pc' := pc + 1) (ls' := ls) (st' := .int (f x z) :: st) hd (by rw [hx]; simp only [d2, h, if_false])]; simp [h]
/-- a field's array made in a constructor -/
theorem w_iarr {i j p1 p2 p3 : Nat} {C : String} {vs : List Value} {r : AHeap} {n : Int32} {v : Value} {aty : ArrayType} {ty at' : FieldType} {l0 : Slot} {lr : List Slot} {ins : Instr} {len : Nat} {b : Nat} (hl : l0 = .val (.ref b)) (hH : H.length = b) (hk : k ≤ b)
    (d0 : decode bytes pc = .ok (.aload_n 0, 1)) (e0 : pc + 1 = p1) (dn1 : decode bytes p1 = .ok (ins, len)) (hx : ∀ st, xstep ins len p1 (l0 :: lr) st = some (p2, l0 :: lr, v :: st)) (hv : v = .int n) (d2' : decode bytes p2 = .ok (.newarray aty, 2)) (ht : newarray.typeOf aty = ty) (hr : hasArr ws ty = true) (hn : ¬ n < 0) (hb : n.toNatClampNeg * 8 ≤ 536870912) (e3 : p2 + 2 = p3)
    (d3 : decode bytes p3 = .ok (.putfield i, 3)) (hp : pfR ws y.cls y.name i = some (C, j, .array at')) (hj : j < vs.length) :
    W ws dn k y bytes ret pc (l0 :: lr) [] (H ++ (.object C, vs) :: r) Q = W ws dn k y bytes ret (p3 + 3) (l0 :: lr) [] (H ++ (.object C, vs.set j (.ref (b + (r.length + 1)))) :: (r ++ [(.array ty, List.replicate n.toNatClampNeg (defaultValue ty))])) Q := by
  subst hl e0 e3 hv hH
  rw [w_x d0 (ls' := .val (.ref H.length) :: lr) (st' := [.ref H.length]) (pc' := pc + 1) rfl, w_x dn1 (hx _), w_newA d2' ht hr hn hb]
  have e1 : (H ++ (FieldType.object C, vs) :: r).length = H.length + (r.length + 1) := by simp
  rw [e1, w_put d3 hp (vs := vs) (H' := H ++ (.object C, vs.set j (.ref (H.length + (r.length + 1)))) :: (r ++ [(.array ty, List.replicate n.toNatClampNeg (defaultValue ty))])) (by simp) hk hj rfl (by simp)]
/-- a field's plain value put at a constructor's head -/
theorem w_iint {i j p1 p2 : Nat} {C : String} {vs : List Value} {r : AHeap} {v v0 v' : Value} {ty : FieldType} {l0 : Slot} {lr : List Slot} {ins : Instr} {len : Nat} {b : Nat} (hl : l0 = .val (.ref b)) (hH : H.length = b) (hk : k ≤ b)
    (d0 : decode bytes pc = .ok (.aload_n 0, 1)) (e0 : pc + 1 = p1) (dn1 : decode bytes p1 = .ok (ins, len)) (hx : ∀ st, xstep ins len p1 (l0 :: lr) st = some (p2, l0 :: lr, v0 :: st)) (hv : v0 = v)
    (d3 : decode bytes p2 = .ok (.putfield i, 3)) (hp : pfR ws y.cls y.name i = some (C, j, ty)) (hv' : putv ty v = some v') (hj : j < vs.length) :
    W ws dn k y bytes ret pc (l0 :: lr) [] (H ++ (.object C, vs) :: r) Q = W ws dn k y bytes ret (p2 + 3) (l0 :: lr) [] (H ++ (.object C, vs.set j v') :: r) Q := by
  subst hl e0 hv hH
  rw [w_x d0 (ls' := .val (.ref H.length) :: lr) (st' := [.ref H.length]) (pc' := pc + 1) rfl, w_x dn1 (hx _)]
  rw [w_put d3 hp (vs := vs) (H' := H ++ (.object C, vs.set j v') :: r) (by simp) hk hj hv' (by simp)]
end
end Jvm.Own
namespace Jvm.Own
open Sem ClassFile Op Lib Jvm.Stand Jvm.Free Jvm.LawKit Jvm.RoadKit
/-- the array's words as plain ints -/
theorem script_of {s : State} {a : Addr} {c : Cell} (hf : Fit s) (A : Arr s s.heap a c .int) (hl : c.slots.size < 2 ^ 31) : ∃ vs : List Int32, c.slots = (vs.map Value.int).toArray := by
  have h : ∀ v ∈ c.slots.toList, ∃ x : Int32, v = .int x := fun v hv => by
    obtain ⟨i, hi, e⟩ := List.getElem_of_mem hv
    have hi' : i < c.slots.size := by simpa using hi
    have e1 : (Nat.toInt32 i).toNatClampNeg = i := by simp only [Int32.toNatClampNeg, len_toInt (Nat.lt_trans hi' hl)]; rfl
    obtain ⟨w, h1, h2⟩ := elem_fit hf A (idx_in hi' hl)
    rw [e1] at h1
    have : w = v := by rw [Array.getElem?_eq_getElem hi'] at h1; rw [← e]; simpa using (Option.some.inj h1).symm
    subst this
    exact fit_I h2 (by simp)
  have g : ∀ l : List Value, (∀ v ∈ l, ∃ x : Int32, v = .int x) → ∃ vs : List Int32, l = vs.map Value.int := fun l => by
    induction l with
    | nil => exact fun _ => ⟨[], rfl⟩
    | cons v r ih =>
      intro q
      obtain ⟨x, rfl⟩ := q _ (List.mem_cons_self ..)
      obtain ⟨vs, e⟩ := ih fun w hw => q w (List.mem_cons_of_mem _ hw)
      exact ⟨x :: vs, by rw [e]; rfl⟩
  obtain ⟨vs, e⟩ := g _ h
  exact ⟨vs, by rw [← e]⟩
end Jvm.Own
namespace Jvm.Own
open Sem ClassFile Op Lib Jvm.Stand Jvm.Free Jvm.LawKit Jvm.RoadKit
/-! OWN 8: small facts on arrays and ints -/
theorem toNat_eq (j : Int32) : j.toNatClampNeg = j.toInt.toNat := rfl
theorem lt_i {x y : Int32} : x < y ↔ x.toInt < y.toInt := Int32.lt_iff_toInt_lt
theorem inB_iff {α : Type} {j : Int32} {l : List α} : inB j l ↔ 0 ≤ j.toInt ∧ j.toInt < (l.length : Int) := by
  have e0 : (0 : Int32).toInt = 0 := rfl
  unfold inB
  rw [lt_i, toNat_eq, e0]
  omega
theorem inB_lt {α : Type} {j n : Int32} {l : List α} (hl : (l.length : Int) = n.toInt) (h0 : ¬ j < 0) (h1 : j < n) : inB j l := by
  have e0 : (0 : Int32).toInt = 0 := rfl
  rw [inB_iff]
  rw [lt_i] at h0 h1
  rw [e0] at h0
  omega
theorem getA_rep (n : Nat) (j : Int32) : getA (List.replicate n 0) j = 0 := by
  simp only [getA, List.getD_eq_getElem?_getD, List.getElem?_replicate]
  split <;> rfl
theorem setA_len {α : Type} (l : List α) (j : Int32) (v : α) : (setA l j v).length = l.length := List.length_set
theorem getA_set {l : List Int32} {i j v : Int32} (h : inB i l) : getA (setA l i v) j = if j.toNatClampNeg = i.toNatClampNeg then v else getA l j := by
  simp only [getA, setA, List.getD_eq_getElem?_getD, List.getElem?_set]
  by_cases e : j.toNatClampNeg = i.toNatClampNeg
  · rw [e]; simp [h.2]
  · simp [e, Ne.symm e]
end Jvm.Own
namespace Jvm.Pilot.@@N@@
open Jvm Jvm.ClassFile Sem Op Lib Jvm.Free Jvm.Stand Jvm.LawKit Jvm.RoadKit Bundle Jvm.Own Jvm.Pilot.@@N@@.Jvm.D
/-- frames and words that each method asks -/
def dn : Dn := [(⟨"StreamSigScanner", "<init>", "(I)V"⟩, 1, 12), (⟨"StreamSigScanner", "stat", "(I)I"⟩, 1, 13), (⟨"StreamSigScanner", "compile", "()I"⟩, 0, 0), (⟨"StreamSigScanner", "endSig", "()I"⟩, 0, 0), (⟨"StreamSigScanner", "openSegment", "(I)I"⟩, 1, 13), (⟨"StreamSigScanner", "byteAt", "(I)I"⟩, 1, 13), (⟨"StreamSigScanner", "isOffset", "(I)Z"⟩, 0, 0), (⟨"StreamSigScanner", "flag", "(Z)I"⟩, 0, 0), (⟨"StreamSigScannerL1", "law", "(II)Z"⟩, 2, 27)]
/- scalars: 0=window 1=compiled 2=sigCount 3=endedBytes 4=pendLen 5=nodeCount 6=scanState 7=delivered 8=held 9=conflicts 10=duplicates 11=dropped 12=lastConflict 13=segOpen 14=segStart 15=segLen 16=matchTotal; arrays: 0=sigBytes@1 1=sigStart@2 2=sigLen@3 3=delta@4 4=fail@5 5=outMask@6 6=queue@7 7=present@8 8=stream@9 9=segBuf@10 10=matchSigs@11 11=matchEnds@12; longs: []; long arrays: [] -/
def objv (b : Nat) (s : Nat → Int32) : List Value := [.ref (b + 1), .ref (b + 2), .ref (b + 3), .ref (b + 4), .ref (b + 5), .ref (b + 6), .ref (b + 7), .ref (b + 8), .ref (b + 9), .ref (b + 10), .ref (b + 11), .ref (b + 12), .int (s 0), .int (s 1), .int (s 2), .int (s 3), .int (s 4), .int (s 5), .int (s 6), .int (s 7), .int (s 8), .int (s 9), .int (s 10), .int (s 11), .int (s 12), .int (s 13), .int (s 14), .int (s 15), .int (s 16)]
def put (b : Nat) (pre : AHeap) (s : Nat → Int32) (A : Nat → List Int32) (post : AHeap) : AHeap := pad b pre ++ ((.object "StreamSigScanner", objv b s) :: (.array .int, (A 0).map Value.int) :: (.array .int, (A 1).map Value.int) :: (.array .int, (A 2).map Value.int) :: (.array .int, (A 3).map Value.int) :: (.array .int, (A 4).map Value.int) :: (.array .int, (A 5).map Value.int) :: (.array .int, (A 6).map Value.int) :: (.array .boolean, (A 7).map Value.int) :: (.array .int, (A 8).map Value.int) :: (.array .int, (A 9).map Value.int) :: (.array .int, (A 10).map Value.int) :: (.array .int, (A 11).map Value.int) :: post)
theorem put_o {b : Nat} {pre : AHeap} {s : Nat → Int32} {A : Nat → List Int32} {post : AHeap} : (put b pre s A post)[b]? = some (.object "StreamSigScanner", objv b s) := pad_get0 _ _ _
theorem put_a0 {b : Nat} {pre : AHeap} {s : Nat → Int32} {A : Nat → List Int32} {post : AHeap} : (put b pre s A post)[b + 1]? = some (.array .int, (A 0).map Value.int) := pad_get _ _ _ 1
theorem put_w0 {b : Nat} {pre : AHeap} {s : Nat → Int32} {A : Nat → List Int32} {post : AHeap} {l : List Int32} : (put b pre s A post).set (b + 1) (.array .int, l.map Value.int) = put b pre s (ou A 0 l) post := pad_set _ _ _ 1 _
theorem put_a1 {b : Nat} {pre : AHeap} {s : Nat → Int32} {A : Nat → List Int32} {post : AHeap} : (put b pre s A post)[b + 2]? = some (.array .int, (A 1).map Value.int) := pad_get _ _ _ 2
theorem put_w1 {b : Nat} {pre : AHeap} {s : Nat → Int32} {A : Nat → List Int32} {post : AHeap} {l : List Int32} : (put b pre s A post).set (b + 2) (.array .int, l.map Value.int) = put b pre s (ou A 1 l) post := pad_set _ _ _ 2 _
theorem put_a2 {b : Nat} {pre : AHeap} {s : Nat → Int32} {A : Nat → List Int32} {post : AHeap} : (put b pre s A post)[b + 3]? = some (.array .int, (A 2).map Value.int) := pad_get _ _ _ 3
theorem put_w2 {b : Nat} {pre : AHeap} {s : Nat → Int32} {A : Nat → List Int32} {post : AHeap} {l : List Int32} : (put b pre s A post).set (b + 3) (.array .int, l.map Value.int) = put b pre s (ou A 2 l) post := pad_set _ _ _ 3 _
theorem put_a3 {b : Nat} {pre : AHeap} {s : Nat → Int32} {A : Nat → List Int32} {post : AHeap} : (put b pre s A post)[b + 4]? = some (.array .int, (A 3).map Value.int) := pad_get _ _ _ 4
theorem put_w3 {b : Nat} {pre : AHeap} {s : Nat → Int32} {A : Nat → List Int32} {post : AHeap} {l : List Int32} : (put b pre s A post).set (b + 4) (.array .int, l.map Value.int) = put b pre s (ou A 3 l) post := pad_set _ _ _ 4 _
theorem put_a4 {b : Nat} {pre : AHeap} {s : Nat → Int32} {A : Nat → List Int32} {post : AHeap} : (put b pre s A post)[b + 5]? = some (.array .int, (A 4).map Value.int) := pad_get _ _ _ 5
theorem put_w4 {b : Nat} {pre : AHeap} {s : Nat → Int32} {A : Nat → List Int32} {post : AHeap} {l : List Int32} : (put b pre s A post).set (b + 5) (.array .int, l.map Value.int) = put b pre s (ou A 4 l) post := pad_set _ _ _ 5 _
theorem put_a5 {b : Nat} {pre : AHeap} {s : Nat → Int32} {A : Nat → List Int32} {post : AHeap} : (put b pre s A post)[b + 6]? = some (.array .int, (A 5).map Value.int) := pad_get _ _ _ 6
theorem put_w5 {b : Nat} {pre : AHeap} {s : Nat → Int32} {A : Nat → List Int32} {post : AHeap} {l : List Int32} : (put b pre s A post).set (b + 6) (.array .int, l.map Value.int) = put b pre s (ou A 5 l) post := pad_set _ _ _ 6 _
theorem put_a6 {b : Nat} {pre : AHeap} {s : Nat → Int32} {A : Nat → List Int32} {post : AHeap} : (put b pre s A post)[b + 7]? = some (.array .int, (A 6).map Value.int) := pad_get _ _ _ 7
theorem put_w6 {b : Nat} {pre : AHeap} {s : Nat → Int32} {A : Nat → List Int32} {post : AHeap} {l : List Int32} : (put b pre s A post).set (b + 7) (.array .int, l.map Value.int) = put b pre s (ou A 6 l) post := pad_set _ _ _ 7 _
theorem put_a7 {b : Nat} {pre : AHeap} {s : Nat → Int32} {A : Nat → List Int32} {post : AHeap} : (put b pre s A post)[b + 8]? = some (.array .boolean, (A 7).map Value.int) := pad_get _ _ _ 8
theorem put_w7 {b : Nat} {pre : AHeap} {s : Nat → Int32} {A : Nat → List Int32} {post : AHeap} {l : List Int32} : (put b pre s A post).set (b + 8) (.array .boolean, l.map Value.int) = put b pre s (ou A 7 l) post := pad_set _ _ _ 8 _
theorem put_a8 {b : Nat} {pre : AHeap} {s : Nat → Int32} {A : Nat → List Int32} {post : AHeap} : (put b pre s A post)[b + 9]? = some (.array .int, (A 8).map Value.int) := pad_get _ _ _ 9
theorem put_w8 {b : Nat} {pre : AHeap} {s : Nat → Int32} {A : Nat → List Int32} {post : AHeap} {l : List Int32} : (put b pre s A post).set (b + 9) (.array .int, l.map Value.int) = put b pre s (ou A 8 l) post := pad_set _ _ _ 9 _
theorem put_a9 {b : Nat} {pre : AHeap} {s : Nat → Int32} {A : Nat → List Int32} {post : AHeap} : (put b pre s A post)[b + 10]? = some (.array .int, (A 9).map Value.int) := pad_get _ _ _ 10
theorem put_w9 {b : Nat} {pre : AHeap} {s : Nat → Int32} {A : Nat → List Int32} {post : AHeap} {l : List Int32} : (put b pre s A post).set (b + 10) (.array .int, l.map Value.int) = put b pre s (ou A 9 l) post := pad_set _ _ _ 10 _
theorem put_a10 {b : Nat} {pre : AHeap} {s : Nat → Int32} {A : Nat → List Int32} {post : AHeap} : (put b pre s A post)[b + 11]? = some (.array .int, (A 10).map Value.int) := pad_get _ _ _ 11
theorem put_w10 {b : Nat} {pre : AHeap} {s : Nat → Int32} {A : Nat → List Int32} {post : AHeap} {l : List Int32} : (put b pre s A post).set (b + 11) (.array .int, l.map Value.int) = put b pre s (ou A 10 l) post := pad_set _ _ _ 11 _
theorem put_a11 {b : Nat} {pre : AHeap} {s : Nat → Int32} {A : Nat → List Int32} {post : AHeap} : (put b pre s A post)[b + 12]? = some (.array .int, (A 11).map Value.int) := pad_get _ _ _ 12
theorem put_w11 {b : Nat} {pre : AHeap} {s : Nat → Int32} {A : Nat → List Int32} {post : AHeap} {l : List Int32} : (put b pre s A post).set (b + 12) (.array .int, l.map Value.int) = put b pre s (ou A 11 l) post := pad_set _ _ _ 12 _
theorem put_s0 {b : Nat} {pre : AHeap} {s : Nat → Int32} {A : Nat → List Int32} {post : AHeap} {v : Int32} : (put b pre s A post).set b (.object "StreamSigScanner", (objv b s).set 12 (.int v)) = put b pre (ou s 0 v) A post := pad_set0 _ _ _ _
theorem put_s1 {b : Nat} {pre : AHeap} {s : Nat → Int32} {A : Nat → List Int32} {post : AHeap} {v : Int32} : (put b pre s A post).set b (.object "StreamSigScanner", (objv b s).set 13 (.int v)) = put b pre (ou s 1 v) A post := pad_set0 _ _ _ _
theorem put_s2 {b : Nat} {pre : AHeap} {s : Nat → Int32} {A : Nat → List Int32} {post : AHeap} {v : Int32} : (put b pre s A post).set b (.object "StreamSigScanner", (objv b s).set 14 (.int v)) = put b pre (ou s 2 v) A post := pad_set0 _ _ _ _
theorem put_s3 {b : Nat} {pre : AHeap} {s : Nat → Int32} {A : Nat → List Int32} {post : AHeap} {v : Int32} : (put b pre s A post).set b (.object "StreamSigScanner", (objv b s).set 15 (.int v)) = put b pre (ou s 3 v) A post := pad_set0 _ _ _ _
theorem put_s4 {b : Nat} {pre : AHeap} {s : Nat → Int32} {A : Nat → List Int32} {post : AHeap} {v : Int32} : (put b pre s A post).set b (.object "StreamSigScanner", (objv b s).set 16 (.int v)) = put b pre (ou s 4 v) A post := pad_set0 _ _ _ _
theorem put_s5 {b : Nat} {pre : AHeap} {s : Nat → Int32} {A : Nat → List Int32} {post : AHeap} {v : Int32} : (put b pre s A post).set b (.object "StreamSigScanner", (objv b s).set 17 (.int v)) = put b pre (ou s 5 v) A post := pad_set0 _ _ _ _
theorem put_s6 {b : Nat} {pre : AHeap} {s : Nat → Int32} {A : Nat → List Int32} {post : AHeap} {v : Int32} : (put b pre s A post).set b (.object "StreamSigScanner", (objv b s).set 18 (.int v)) = put b pre (ou s 6 v) A post := pad_set0 _ _ _ _
theorem put_s7 {b : Nat} {pre : AHeap} {s : Nat → Int32} {A : Nat → List Int32} {post : AHeap} {v : Int32} : (put b pre s A post).set b (.object "StreamSigScanner", (objv b s).set 19 (.int v)) = put b pre (ou s 7 v) A post := pad_set0 _ _ _ _
theorem put_s8 {b : Nat} {pre : AHeap} {s : Nat → Int32} {A : Nat → List Int32} {post : AHeap} {v : Int32} : (put b pre s A post).set b (.object "StreamSigScanner", (objv b s).set 20 (.int v)) = put b pre (ou s 8 v) A post := pad_set0 _ _ _ _
theorem put_s9 {b : Nat} {pre : AHeap} {s : Nat → Int32} {A : Nat → List Int32} {post : AHeap} {v : Int32} : (put b pre s A post).set b (.object "StreamSigScanner", (objv b s).set 21 (.int v)) = put b pre (ou s 9 v) A post := pad_set0 _ _ _ _
theorem put_s10 {b : Nat} {pre : AHeap} {s : Nat → Int32} {A : Nat → List Int32} {post : AHeap} {v : Int32} : (put b pre s A post).set b (.object "StreamSigScanner", (objv b s).set 22 (.int v)) = put b pre (ou s 10 v) A post := pad_set0 _ _ _ _
theorem put_s11 {b : Nat} {pre : AHeap} {s : Nat → Int32} {A : Nat → List Int32} {post : AHeap} {v : Int32} : (put b pre s A post).set b (.object "StreamSigScanner", (objv b s).set 23 (.int v)) = put b pre (ou s 11 v) A post := pad_set0 _ _ _ _
theorem put_s12 {b : Nat} {pre : AHeap} {s : Nat → Int32} {A : Nat → List Int32} {post : AHeap} {v : Int32} : (put b pre s A post).set b (.object "StreamSigScanner", (objv b s).set 24 (.int v)) = put b pre (ou s 12 v) A post := pad_set0 _ _ _ _
theorem put_s13 {b : Nat} {pre : AHeap} {s : Nat → Int32} {A : Nat → List Int32} {post : AHeap} {v : Int32} : (put b pre s A post).set b (.object "StreamSigScanner", (objv b s).set 25 (.int v)) = put b pre (ou s 13 v) A post := pad_set0 _ _ _ _
theorem put_s14 {b : Nat} {pre : AHeap} {s : Nat → Int32} {A : Nat → List Int32} {post : AHeap} {v : Int32} : (put b pre s A post).set b (.object "StreamSigScanner", (objv b s).set 26 (.int v)) = put b pre (ou s 14 v) A post := pad_set0 _ _ _ _
theorem put_s15 {b : Nat} {pre : AHeap} {s : Nat → Int32} {A : Nat → List Int32} {post : AHeap} {v : Int32} : (put b pre s A post).set b (.object "StreamSigScanner", (objv b s).set 27 (.int v)) = put b pre (ou s 15 v) A post := pad_set0 _ _ _ _
theorem put_s16 {b : Nat} {pre : AHeap} {s : Nat → Int32} {A : Nat → List Int32} {post : AHeap} {v : Int32} : (put b pre s A post).set b (.object "StreamSigScanner", (objv b s).set 28 (.int v)) = put b pre (ou s 16 v) A post := pad_set0 _ _ _ _
theorem put_len {b : Nat} {pre : AHeap} {s : Nat → Int32} {A : Nat → List Int32} {post : AHeap} : (put b pre s A post).length = b + 13 + post.length := by rw [put, List.length_append, pad_len]; simp only [List.length_cons]; omega
theorem inst0 : rInst tables_1 "StreamSigScanner" = some 29 := by decide +kernel
theorem put_tot {b : Nat} {pre : AHeap} {s : Nat → Int32} {A : Nat → List Int32} {post : AHeap} : tot tables_1 (put b pre s A post) = tot tables_1 (pad b pre) + (29 + ((A 0).length + ((A 1).length + ((A 2).length + ((A 3).length + ((A 4).length + ((A 5).length + ((A 6).length + ((A 7).length + ((A 8).length + ((A 9).length + ((A 10).length + ((A 11).length + tot tables_1 post))))))))))))) := by rw [put, tot_append]; simp only [tot_cons, cost, List.length_map, inst0, Option.getD_some]
def D0 : List Value := [.null, .null, .null, .null, .null, .null, .null, .null, .null, .null, .null, .null, .int 0, .int 0, .int 0, .int 0, .int 0, .int 0, .int 0, .int 0, .int 0, .int 0, .int 0, .int 0, .int 0, .int 0, .int 0, .int 0, .int 0]
theorem lay0 : (olay tables_1 "StreamSigScanner").map dflt = D0 := by decide +kernel
abbrev y0 : MethodName := ⟨"StreamSigScanner", "<init>", "(I)V"⟩
abbrev kb0 : ByteArray := prog_1_method_1_code
def M0 (pc : Nat) (ls : List Slot) (st : List Value) (H : AHeap) (Q : Option Value → AHeap → Prop) : Prop := W tables_1 dn 0 y0 prog_1_method_1_code none pc ls st H Q
abbrev y1 : MethodName := ⟨"StreamSigScanner", "stat", "(I)I"⟩
abbrev kb1 : ByteArray := prog_1_method_16_code
def M1 (pc : Nat) (ls : List Slot) (st : List Value) (H : AHeap) (Q : Option Value → AHeap → Prop) : Prop := W tables_1 dn 0 y1 prog_1_method_16_code (some .int) pc ls st H Q
abbrev y2 : MethodName := ⟨"StreamSigScanner", "compile", "()I"⟩
abbrev kb2 : ByteArray := prog_1_method_4_code
def M2 (pc : Nat) (ls : List Slot) (st : List Value) (H : AHeap) (Q : Option Value → AHeap → Prop) : Prop := W tables_1 dn 0 y2 prog_1_method_4_code (some .int) pc ls st H Q
abbrev y3 : MethodName := ⟨"StreamSigScanner", "endSig", "()I"⟩
abbrev kb3 : ByteArray := prog_1_method_3_code
def M3 (pc : Nat) (ls : List Slot) (st : List Value) (H : AHeap) (Q : Option Value → AHeap → Prop) : Prop := W tables_1 dn 0 y3 prog_1_method_3_code (some .int) pc ls st H Q
abbrev y4 : MethodName := ⟨"StreamSigScanner", "openSegment", "(I)I"⟩
abbrev kb4 : ByteArray := prog_1_method_9_code
def M4 (pc : Nat) (ls : List Slot) (st : List Value) (H : AHeap) (Q : Option Value → AHeap → Prop) : Prop := W tables_1 dn 0 y4 prog_1_method_9_code (some .int) pc ls st H Q
abbrev y5 : MethodName := ⟨"StreamSigScanner", "byteAt", "(I)I"⟩
abbrev kb5 : ByteArray := prog_1_method_17_code
def M5 (pc : Nat) (ls : List Slot) (st : List Value) (H : AHeap) (Q : Option Value → AHeap → Prop) : Prop := W tables_1 dn 0 y5 prog_1_method_17_code (some .int) pc ls st H Q
abbrev y6 : MethodName := ⟨"StreamSigScanner", "isOffset", "(I)Z"⟩
abbrev kb6 : ByteArray := prog_1_method_23_code
def M6 (pc : Nat) (ls : List Slot) (st : List Value) (H : AHeap) (Q : Option Value → AHeap → Prop) : Prop := W tables_1 dn 0 y6 prog_1_method_23_code (some .boolean) pc ls st H Q
abbrev y7 : MethodName := ⟨"StreamSigScanner", "flag", "(Z)I"⟩
abbrev kb7 : ByteArray := prog_1_method_26_code
def M7 (pc : Nat) (ls : List Slot) (st : List Value) (H : AHeap) (Q : Option Value → AHeap → Prop) : Prop := W tables_1 dn 0 y7 prog_1_method_26_code (some .int) pc ls st H Q
abbrev y8 : MethodName := ⟨"StreamSigScannerL1", "law", "(II)Z"⟩
abbrev kb8 : ByteArray := code
def M8 (pc : Nat) (ls : List Slot) (st : List Value) (H : AHeap) (Q : Option Value → AHeap → Prop) : Prop := W tables_1 dn 0 y8 code (some .boolean) pc ls st H Q
theorem dn_0 : dnOf dn y0 = some (1, 12) := by decide +kernel
theorem rc_0 : rCode tables_1 y0 = some (prog_1_method_1_code, 3, none) := rCode_of (i := 5) rfl (by decide +kernel)
theorem dn_1 : dnOf dn y1 = some (1, 13) := by decide +kernel
theorem rc_1 : rCode tables_1 y1 = some (prog_1_method_16_code, 2, some .int) := rCode_of (i := 73) rfl (by decide +kernel)
theorem dn_2 : dnOf dn y2 = some (0, 0) := by decide +kernel
theorem rc_2 : rCode tables_1 y2 = some (prog_1_method_4_code, 1, some .int) := rCode_of (i := 78) rfl (by decide +kernel)
theorem dn_3 : dnOf dn y3 = some (0, 0) := by decide +kernel
theorem rc_3 : rCode tables_1 y3 = some (prog_1_method_3_code, 2, some .int) := rCode_of (i := 83) rfl (by decide +kernel)
theorem dn_4 : dnOf dn y4 = some (1, 13) := by decide +kernel
theorem rc_4 : rCode tables_1 y4 = some (prog_1_method_9_code, 2, some .int) := rCode_of (i := 88) rfl (by decide +kernel)
theorem dn_5 : dnOf dn y5 = some (1, 13) := by decide +kernel
theorem rc_5 : rCode tables_1 y5 = some (prog_1_method_17_code, 2, some .int) := rCode_of (i := 93) rfl (by decide +kernel)
theorem dn_6 : dnOf dn y6 = some (0, 0) := by decide +kernel
theorem rc_6 : rCode tables_1 y6 = some (prog_1_method_23_code, 2, some .boolean) := rCode_of (i := 97) rfl (by decide +kernel)
theorem dn_7 : dnOf dn y7 = some (0, 0) := by decide +kernel
theorem rc_7 : rCode tables_1 y7 = some (prog_1_method_26_code, 2, some .int) := rCode_of (i := 101) rfl (by decide +kernel)
theorem dn_8 : dnOf dn y8 = some (2, 27) := by decide +kernel
theorem gf_7 : gfR tables_1 "StreamSigScanner" 7 = some ("StreamSigScanner", 0) := by decide +kernel
theorem gf_13 : gfR tables_1 "StreamSigScanner" 13 = some ("StreamSigScanner", 1) := by decide +kernel
theorem gf_16 : gfR tables_1 "StreamSigScanner" 16 = some ("StreamSigScanner", 2) := by decide +kernel
theorem gf_19 : gfR tables_1 "StreamSigScanner" 19 = some ("StreamSigScanner", 3) := by decide +kernel
theorem gf_22 : gfR tables_1 "StreamSigScanner" 22 = some ("StreamSigScanner", 4) := by decide +kernel
theorem gf_25 : gfR tables_1 "StreamSigScanner" 25 = some ("StreamSigScanner", 5) := by decide +kernel
theorem gf_28 : gfR tables_1 "StreamSigScanner" 28 = some ("StreamSigScanner", 6) := by decide +kernel
theorem gf_31 : gfR tables_1 "StreamSigScanner" 31 = some ("StreamSigScanner", 7) := by decide +kernel
theorem gf_35 : gfR tables_1 "StreamSigScanner" 35 = some ("StreamSigScanner", 8) := by decide +kernel
theorem gf_38 : gfR tables_1 "StreamSigScanner" 38 = some ("StreamSigScanner", 9) := by decide +kernel
theorem gf_41 : gfR tables_1 "StreamSigScanner" 41 = some ("StreamSigScanner", 10) := by decide +kernel
theorem gf_44 : gfR tables_1 "StreamSigScanner" 44 = some ("StreamSigScanner", 11) := by decide +kernel
theorem gf_47 : gfR tables_1 "StreamSigScanner" 47 = some ("StreamSigScanner", 12) := by decide +kernel
theorem gf_51 : gfR tables_1 "StreamSigScanner" 51 = some ("StreamSigScanner", 13) := by decide +kernel
theorem gf_55 : gfR tables_1 "StreamSigScanner" 55 = some ("StreamSigScanner", 14) := by decide +kernel
theorem gf_58 : gfR tables_1 "StreamSigScanner" 58 = some ("StreamSigScanner", 15) := by decide +kernel
theorem gf_61 : gfR tables_1 "StreamSigScanner" 61 = some ("StreamSigScanner", 16) := by decide +kernel
theorem gf_64 : gfR tables_1 "StreamSigScanner" 64 = some ("StreamSigScanner", 17) := by decide +kernel
theorem gf_67 : gfR tables_1 "StreamSigScanner" 67 = some ("StreamSigScanner", 18) := by decide +kernel
theorem gf_70 : gfR tables_1 "StreamSigScanner" 70 = some ("StreamSigScanner", 19) := by decide +kernel
theorem gf_73 : gfR tables_1 "StreamSigScanner" 73 = some ("StreamSigScanner", 20) := by decide +kernel
theorem gf_76 : gfR tables_1 "StreamSigScanner" 76 = some ("StreamSigScanner", 21) := by decide +kernel
theorem gf_79 : gfR tables_1 "StreamSigScanner" 79 = some ("StreamSigScanner", 22) := by decide +kernel
theorem gf_82 : gfR tables_1 "StreamSigScanner" 82 = some ("StreamSigScanner", 23) := by decide +kernel
theorem gf_85 : gfR tables_1 "StreamSigScanner" 85 = some ("StreamSigScanner", 24) := by decide +kernel
theorem gf_88 : gfR tables_1 "StreamSigScanner" 88 = some ("StreamSigScanner", 25) := by decide +kernel
theorem gf_91 : gfR tables_1 "StreamSigScanner" 91 = some ("StreamSigScanner", 26) := by decide +kernel
theorem gf_94 : gfR tables_1 "StreamSigScanner" 94 = some ("StreamSigScanner", 27) := by decide +kernel
theorem gf_97 : gfR tables_1 "StreamSigScanner" 97 = some ("StreamSigScanner", 28) := by decide +kernel
section Rules
variable {b r q : Nat} {pre : AHeap} {s : Nat → Int32} {A : Nat → List Int32} {post : AHeap} {ls : List Slot} {st : List Value} {H R : AHeap} {Q : Option Value → AHeap → Prop} {x y v z j : Int32} {J1 J2 : Int64} {sc : List Int32} {l0 l1 l2 l3 : Slot}
theorem m0_0 : M0 0 [.val (.ref r), l1, l2] st H Q = M0 1 [.val (.ref r), l1, l2] (.ref r :: st) H Q := w_x (show decode kb0 0 = .ok (.aload_n 0, 1) from by decide +kernel) rfl
theorem m0_1 : M0 1 ls [.ref r] H Q = M0 4 ls [] H Q := w_obj (show decode kb0 1 = .ok (.invokespecial 1, 3) from by decide +kernel) (sl := 0) (by decide +kernel) (by decide)
theorem m0_4 : M0 4 [.val (.ref r), l1, l2] st H Q = M0 5 [.val (.ref r), l1, l2] (.ref r :: st) H Q := w_x (show decode kb0 4 = .ok (.aload_n 0, 1) from by decide +kernel) rfl
theorem m0_5 : M0 5 ls st H Q = M0 7 ls (.int 64 :: st) H Q := w_con (show decode kb0 5 = .ok (.bipush 64, 2) from by decide +kernel) rfl (by decide)
theorem m0_12 : M0 12 [.val (.ref r), l1, l2] st H Q = M0 13 [.val (.ref r), l1, l2] (.ref r :: st) H Q := w_x (show decode kb0 12 = .ok (.aload_n 0, 1) from by decide +kernel) rfl
theorem m0_13 : M0 13 ls st H Q = M0 15 ls (.int 16 :: st) H Q := w_con (show decode kb0 13 = .ok (.bipush 16, 2) from by decide +kernel) rfl (by decide)
theorem m0_20 : M0 20 [.val (.ref r), l1, l2] st H Q = M0 21 [.val (.ref r), l1, l2] (.ref r :: st) H Q := w_x (show decode kb0 20 = .ok (.aload_n 0, 1) from by decide +kernel) rfl
theorem m0_21 : M0 21 ls st H Q = M0 23 ls (.int 16 :: st) H Q := w_con (show decode kb0 21 = .ok (.bipush 16, 2) from by decide +kernel) rfl (by decide)
theorem m0_28 : M0 28 [.val (.ref r), l1, l2] st H Q = M0 29 [.val (.ref r), l1, l2] (.ref r :: st) H Q := w_x (show decode kb0 28 = .ok (.aload_n 0, 1) from by decide +kernel) rfl
theorem m0_29 : M0 29 ls st H Q = M0 32 ls (.int 16640 :: st) H Q := w_con (show decode kb0 29 = .ok (.sipush 16640, 3) from by decide +kernel) rfl (by decide)
theorem m0_37 : M0 37 [.val (.ref r), l1, l2] st H Q = M0 38 [.val (.ref r), l1, l2] (.ref r :: st) H Q := w_x (show decode kb0 37 = .ok (.aload_n 0, 1) from by decide +kernel) rfl
theorem m0_38 : M0 38 ls st H Q = M0 40 ls (.int 65 :: st) H Q := w_con (show decode kb0 38 = .ok (.bipush 65, 2) from by decide +kernel) rfl (by decide)
theorem m0_45 : M0 45 [.val (.ref r), l1, l2] st H Q = M0 46 [.val (.ref r), l1, l2] (.ref r :: st) H Q := w_x (show decode kb0 45 = .ok (.aload_n 0, 1) from by decide +kernel) rfl
theorem m0_46 : M0 46 ls st H Q = M0 48 ls (.int 65 :: st) H Q := w_con (show decode kb0 46 = .ok (.bipush 65, 2) from by decide +kernel) rfl (by decide)
theorem m0_53 : M0 53 [.val (.ref r), l1, l2] st H Q = M0 54 [.val (.ref r), l1, l2] (.ref r :: st) H Q := w_x (show decode kb0 53 = .ok (.aload_n 0, 1) from by decide +kernel) rfl
theorem m0_54 : M0 54 ls st H Q = M0 56 ls (.int 65 :: st) H Q := w_con (show decode kb0 54 = .ok (.bipush 65, 2) from by decide +kernel) rfl (by decide)
theorem m0_61 : M0 61 [.val (.ref r), l1, l2] st H Q = M0 62 [.val (.ref r), l1, l2] (.ref r :: st) H Q := w_x (show decode kb0 61 = .ok (.aload_n 0, 1) from by decide +kernel) rfl
theorem m0_62 : M0 62 ls st H Q = M0 65 ls (.int 256 :: st) H Q := w_con (show decode kb0 62 = .ok (.sipush 256, 3) from by decide +kernel) rfl (by decide)
theorem m0_70 : M0 70 [.val (.ref r), l1, l2] st H Q = M0 71 [.val (.ref r), l1, l2] (.ref r :: st) H Q := w_x (show decode kb0 70 = .ok (.aload_n 0, 1) from by decide +kernel) rfl
theorem m0_71 : M0 71 ls st H Q = M0 74 ls (.int 256 :: st) H Q := w_con (show decode kb0 71 = .ok (.sipush 256, 3) from by decide +kernel) rfl (by decide)
theorem m0_79 : M0 79 [.val (.ref r), l1, l2] st H Q = M0 80 [.val (.ref r), l1, l2] (.ref r :: st) H Q := w_x (show decode kb0 79 = .ok (.aload_n 0, 1) from by decide +kernel) rfl
theorem m0_80 : M0 80 ls st H Q = M0 82 ls (.int 16 :: st) H Q := w_con (show decode kb0 80 = .ok (.bipush 16, 2) from by decide +kernel) rfl (by decide)
theorem m0_87 : M0 87 [.val (.ref r), l1, l2] st H Q = M0 88 [.val (.ref r), l1, l2] (.ref r :: st) H Q := w_x (show decode kb0 87 = .ok (.aload_n 0, 1) from by decide +kernel) rfl
theorem m0_88 : M0 88 ls st H Q = M0 90 ls (.int 64 :: st) H Q := w_con (show decode kb0 88 = .ok (.bipush 64, 2) from by decide +kernel) rfl (by decide)
theorem m0_95 : M0 95 [.val (.ref r), l1, l2] st H Q = M0 96 [.val (.ref r), l1, l2] (.ref r :: st) H Q := w_x (show decode kb0 95 = .ok (.aload_n 0, 1) from by decide +kernel) rfl
theorem m0_96 : M0 96 ls st H Q = M0 98 ls (.int 64 :: st) H Q := w_con (show decode kb0 96 = .ok (.bipush 64, 2) from by decide +kernel) rfl (by decide)
theorem m0_103 : M0 103 [l0, .val (.int v), l2] st H Q = M0 104 [l0, .val (.int v), l2] (.int v :: st) H Q := w_x (show decode kb0 103 = .ok (.iload_n 1, 1) from by decide +kernel) rfl
theorem m0_104u : M0 104 [l0, l1, .unset] ((.int v) :: st) H Q = M0 105 [l0, l1, .val (.int v)] st H Q := w_st (i := 2) (p := isI) (show decode kb0 104 = .ok (.istore_n 2, 1) from by decide +kernel) rfl rfl rfl rfl rfl rfl
theorem m0_105 : M0 105 [l0, l1, .val (.int v)] st H Q = M0 106 [l0, l1, .val (.int v)] (.int v :: st) H Q := w_x (show decode kb0 105 = .ok (.iload_n 2, 1) from by decide +kernel) rfl
theorem m0_106 : M0 106 ls st H Q = M0 108 ls (.int 8 :: st) H Q := w_con (show decode kb0 106 = .ok (.bipush 8, 2) from by decide +kernel) rfl (by decide)
theorem m0_108 : M0 108 ls (.int y :: .int x :: st) H Q = if x < y then M0 111 ls st H Q else M0 114 ls st H Q := w_icmpN (show decode kb0 108 = .ok (.if_icmp .ge 6, 3) from by decide +kernel) (i_ge x y) rfl
theorem m0_111 : M0 111 ls st H Q = M0 113 ls (.int 8 :: st) H Q := w_con (show decode kb0 111 = .ok (.bipush 8, 2) from by decide +kernel) rfl (by decide)
theorem m0_113i : M0 113 [l0, l1, .val (.int z)] ((.int v) :: st) H Q = M0 114 [l0, l1, .val (.int v)] st H Q := w_st (i := 2) (p := isI) (show decode kb0 113 = .ok (.istore_n 2, 1) from by decide +kernel) rfl rfl rfl rfl rfl rfl
theorem m0_114 : M0 114 [l0, l1, .val (.int v)] st H Q = M0 115 [l0, l1, .val (.int v)] (.int v :: st) H Q := w_x (show decode kb0 114 = .ok (.iload_n 2, 1) from by decide +kernel) rfl
theorem m0_115 : M0 115 ls st H Q = M0 117 ls (.int 64 :: st) H Q := w_con (show decode kb0 115 = .ok (.bipush 64, 2) from by decide +kernel) rfl (by decide)
theorem m0_117 : M0 117 ls (.int y :: .int x :: st) H Q = if y < x then M0 120 ls st H Q else M0 123 ls st H Q := w_icmpN (show decode kb0 117 = .ok (.if_icmp .le 6, 3) from by decide +kernel) (i_le x y) rfl
theorem m0_120 : M0 120 ls st H Q = M0 122 ls (.int 64 :: st) H Q := w_con (show decode kb0 120 = .ok (.bipush 64, 2) from by decide +kernel) rfl (by decide)
theorem m0_122i : M0 122 [l0, l1, .val (.int z)] ((.int v) :: st) H Q = M0 123 [l0, l1, .val (.int v)] st H Q := w_st (i := 2) (p := isI) (show decode kb0 122 = .ok (.istore_n 2, 1) from by decide +kernel) rfl rfl rfl rfl rfl rfl
theorem m0_123 : M0 123 [.val (.ref r), l1, l2] st H Q = M0 124 [.val (.ref r), l1, l2] (.ref r :: st) H Q := w_x (show decode kb0 123 = .ok (.aload_n 0, 1) from by decide +kernel) rfl
theorem m0_124 : M0 124 [l0, l1, .val (.int v)] st H Q = M0 125 [l0, l1, .val (.int v)] (.int v :: st) H Q := w_x (show decode kb0 124 = .ok (.iload_n 2, 1) from by decide +kernel) rfl
theorem pf0_47 : pfR tables_1 y0.cls y0.name 47 = some ("StreamSigScanner", 12, .int) := by decide +kernel
theorem m0_125 : M0 125 ls (.int v :: .ref b :: st) (put b pre s A post) Q = M0 128 ls st (put b pre (ou s 0 v) A post) Q := w_put (show decode kb0 125 = .ok (.putfield 47, 3) from by decide +kernel) pf0_47 put_o (Nat.zero_le _) (by show 12 < 29; omega) rfl put_s0
theorem m0_128 : M0 128 [.val (.ref r), l1, l2] st H Q = M0 129 [.val (.ref r), l1, l2] (.ref r :: st) H Q := w_x (show decode kb0 128 = .ok (.aload_n 0, 1) from by decide +kernel) rfl
theorem m0_129 : M0 129 ls st H Q = M0 130 ls (.int 0 :: st) H Q := w_con (show decode kb0 129 = .ok (.iconst 0, 1) from by decide +kernel) rfl (by decide)
theorem pf0_51 : pfR tables_1 y0.cls y0.name 51 = some ("StreamSigScanner", 13, .boolean) := by decide +kernel
theorem m0_130 : M0 130 ls (.int v :: .ref b :: st) (put b pre s A post) Q = M0 133 ls st (put b pre (ou s 1 (nar .boolean v)) A post) Q := w_put (show decode kb0 130 = .ok (.putfield 51, 3) from by decide +kernel) pf0_51 put_o (Nat.zero_le _) (by show 13 < 29; omega) rfl put_s1
theorem m0_133 : M0 133 [.val (.ref r), l1, l2] st H Q = M0 134 [.val (.ref r), l1, l2] (.ref r :: st) H Q := w_x (show decode kb0 133 = .ok (.aload_n 0, 1) from by decide +kernel) rfl
theorem m0_134 : M0 134 ls st H Q = M0 135 ls (.int 0 :: st) H Q := w_con (show decode kb0 134 = .ok (.iconst 0, 1) from by decide +kernel) rfl (by decide)
theorem pf0_55 : pfR tables_1 y0.cls y0.name 55 = some ("StreamSigScanner", 14, .int) := by decide +kernel
theorem m0_135 : M0 135 ls (.int v :: .ref b :: st) (put b pre s A post) Q = M0 138 ls st (put b pre (ou s 2 v) A post) Q := w_put (show decode kb0 135 = .ok (.putfield 55, 3) from by decide +kernel) pf0_55 put_o (Nat.zero_le _) (by show 14 < 29; omega) rfl put_s2
theorem m0_138 : M0 138 [.val (.ref r), l1, l2] st H Q = M0 139 [.val (.ref r), l1, l2] (.ref r :: st) H Q := w_x (show decode kb0 138 = .ok (.aload_n 0, 1) from by decide +kernel) rfl
theorem m0_139 : M0 139 ls st H Q = M0 140 ls (.int 0 :: st) H Q := w_con (show decode kb0 139 = .ok (.iconst 0, 1) from by decide +kernel) rfl (by decide)
theorem pf0_58 : pfR tables_1 y0.cls y0.name 58 = some ("StreamSigScanner", 15, .int) := by decide +kernel
theorem m0_140 : M0 140 ls (.int v :: .ref b :: st) (put b pre s A post) Q = M0 143 ls st (put b pre (ou s 3 v) A post) Q := w_put (show decode kb0 140 = .ok (.putfield 58, 3) from by decide +kernel) pf0_58 put_o (Nat.zero_le _) (by show 15 < 29; omega) rfl put_s3
theorem m0_143 : M0 143 [.val (.ref r), l1, l2] st H Q = M0 144 [.val (.ref r), l1, l2] (.ref r :: st) H Q := w_x (show decode kb0 143 = .ok (.aload_n 0, 1) from by decide +kernel) rfl
theorem m0_144 : M0 144 ls st H Q = M0 145 ls (.int 0 :: st) H Q := w_con (show decode kb0 144 = .ok (.iconst 0, 1) from by decide +kernel) rfl (by decide)
theorem pf0_61 : pfR tables_1 y0.cls y0.name 61 = some ("StreamSigScanner", 16, .int) := by decide +kernel
theorem m0_145 : M0 145 ls (.int v :: .ref b :: st) (put b pre s A post) Q = M0 148 ls st (put b pre (ou s 4 v) A post) Q := w_put (show decode kb0 145 = .ok (.putfield 61, 3) from by decide +kernel) pf0_61 put_o (Nat.zero_le _) (by show 16 < 29; omega) rfl put_s4
theorem m0_148 : M0 148 [.val (.ref r), l1, l2] st H Q = M0 149 [.val (.ref r), l1, l2] (.ref r :: st) H Q := w_x (show decode kb0 148 = .ok (.aload_n 0, 1) from by decide +kernel) rfl
theorem m0_149 : M0 149 ls st H Q = M0 150 ls (.int 1 :: st) H Q := w_con (show decode kb0 149 = .ok (.iconst 1, 1) from by decide +kernel) rfl (by decide)
theorem pf0_64 : pfR tables_1 y0.cls y0.name 64 = some ("StreamSigScanner", 17, .int) := by decide +kernel
theorem m0_150 : M0 150 ls (.int v :: .ref b :: st) (put b pre s A post) Q = M0 153 ls st (put b pre (ou s 5 v) A post) Q := w_put (show decode kb0 150 = .ok (.putfield 64, 3) from by decide +kernel) pf0_64 put_o (Nat.zero_le _) (by show 17 < 29; omega) rfl put_s5
theorem m0_153 : M0 153 [.val (.ref r), l1, l2] st H Q = M0 154 [.val (.ref r), l1, l2] (.ref r :: st) H Q := w_x (show decode kb0 153 = .ok (.aload_n 0, 1) from by decide +kernel) rfl
theorem m0_154 : M0 154 ls st H Q = M0 155 ls (.int 0 :: st) H Q := w_con (show decode kb0 154 = .ok (.iconst 0, 1) from by decide +kernel) rfl (by decide)
theorem pf0_67 : pfR tables_1 y0.cls y0.name 67 = some ("StreamSigScanner", 18, .int) := by decide +kernel
theorem m0_155 : M0 155 ls (.int v :: .ref b :: st) (put b pre s A post) Q = M0 158 ls st (put b pre (ou s 6 v) A post) Q := w_put (show decode kb0 155 = .ok (.putfield 67, 3) from by decide +kernel) pf0_67 put_o (Nat.zero_le _) (by show 18 < 29; omega) rfl put_s6
theorem m0_158 : M0 158 [.val (.ref r), l1, l2] st H Q = M0 159 [.val (.ref r), l1, l2] (.ref r :: st) H Q := w_x (show decode kb0 158 = .ok (.aload_n 0, 1) from by decide +kernel) rfl
theorem m0_159 : M0 159 ls st H Q = M0 160 ls (.int 0 :: st) H Q := w_con (show decode kb0 159 = .ok (.iconst 0, 1) from by decide +kernel) rfl (by decide)
theorem pf0_70 : pfR tables_1 y0.cls y0.name 70 = some ("StreamSigScanner", 19, .int) := by decide +kernel
theorem m0_160 : M0 160 ls (.int v :: .ref b :: st) (put b pre s A post) Q = M0 163 ls st (put b pre (ou s 7 v) A post) Q := w_put (show decode kb0 160 = .ok (.putfield 70, 3) from by decide +kernel) pf0_70 put_o (Nat.zero_le _) (by show 19 < 29; omega) rfl put_s7
theorem m0_163 : M0 163 [.val (.ref r), l1, l2] st H Q = M0 164 [.val (.ref r), l1, l2] (.ref r :: st) H Q := w_x (show decode kb0 163 = .ok (.aload_n 0, 1) from by decide +kernel) rfl
theorem m0_164 : M0 164 ls st H Q = M0 165 ls (.int 0 :: st) H Q := w_con (show decode kb0 164 = .ok (.iconst 0, 1) from by decide +kernel) rfl (by decide)
theorem pf0_73 : pfR tables_1 y0.cls y0.name 73 = some ("StreamSigScanner", 20, .int) := by decide +kernel
theorem m0_165 : M0 165 ls (.int v :: .ref b :: st) (put b pre s A post) Q = M0 168 ls st (put b pre (ou s 8 v) A post) Q := w_put (show decode kb0 165 = .ok (.putfield 73, 3) from by decide +kernel) pf0_73 put_o (Nat.zero_le _) (by show 20 < 29; omega) rfl put_s8
theorem m0_168 : M0 168 [.val (.ref r), l1, l2] st H Q = M0 169 [.val (.ref r), l1, l2] (.ref r :: st) H Q := w_x (show decode kb0 168 = .ok (.aload_n 0, 1) from by decide +kernel) rfl
theorem m0_169 : M0 169 ls st H Q = M0 170 ls (.int 0 :: st) H Q := w_con (show decode kb0 169 = .ok (.iconst 0, 1) from by decide +kernel) rfl (by decide)
theorem pf0_76 : pfR tables_1 y0.cls y0.name 76 = some ("StreamSigScanner", 21, .int) := by decide +kernel
theorem m0_170 : M0 170 ls (.int v :: .ref b :: st) (put b pre s A post) Q = M0 173 ls st (put b pre (ou s 9 v) A post) Q := w_put (show decode kb0 170 = .ok (.putfield 76, 3) from by decide +kernel) pf0_76 put_o (Nat.zero_le _) (by show 21 < 29; omega) rfl put_s9
theorem m0_173 : M0 173 [.val (.ref r), l1, l2] st H Q = M0 174 [.val (.ref r), l1, l2] (.ref r :: st) H Q := w_x (show decode kb0 173 = .ok (.aload_n 0, 1) from by decide +kernel) rfl
theorem m0_174 : M0 174 ls st H Q = M0 175 ls (.int 0 :: st) H Q := w_con (show decode kb0 174 = .ok (.iconst 0, 1) from by decide +kernel) rfl (by decide)
theorem pf0_79 : pfR tables_1 y0.cls y0.name 79 = some ("StreamSigScanner", 22, .int) := by decide +kernel
theorem m0_175 : M0 175 ls (.int v :: .ref b :: st) (put b pre s A post) Q = M0 178 ls st (put b pre (ou s 10 v) A post) Q := w_put (show decode kb0 175 = .ok (.putfield 79, 3) from by decide +kernel) pf0_79 put_o (Nat.zero_le _) (by show 22 < 29; omega) rfl put_s10
theorem m0_178 : M0 178 [.val (.ref r), l1, l2] st H Q = M0 179 [.val (.ref r), l1, l2] (.ref r :: st) H Q := w_x (show decode kb0 178 = .ok (.aload_n 0, 1) from by decide +kernel) rfl
theorem m0_179 : M0 179 ls st H Q = M0 180 ls (.int 0 :: st) H Q := w_con (show decode kb0 179 = .ok (.iconst 0, 1) from by decide +kernel) rfl (by decide)
theorem pf0_82 : pfR tables_1 y0.cls y0.name 82 = some ("StreamSigScanner", 23, .int) := by decide +kernel
theorem m0_180 : M0 180 ls (.int v :: .ref b :: st) (put b pre s A post) Q = M0 183 ls st (put b pre (ou s 11 v) A post) Q := w_put (show decode kb0 180 = .ok (.putfield 82, 3) from by decide +kernel) pf0_82 put_o (Nat.zero_le _) (by show 23 < 29; omega) rfl put_s11
theorem m0_183 : M0 183 [.val (.ref r), l1, l2] st H Q = M0 184 [.val (.ref r), l1, l2] (.ref r :: st) H Q := w_x (show decode kb0 183 = .ok (.aload_n 0, 1) from by decide +kernel) rfl
theorem m0_184 : M0 184 ls st H Q = M0 185 ls (.int (-1) :: st) H Q := w_con (show decode kb0 184 = .ok (.iconst (-1), 1) from by decide +kernel) rfl (by decide)
theorem pf0_85 : pfR tables_1 y0.cls y0.name 85 = some ("StreamSigScanner", 24, .int) := by decide +kernel
theorem m0_185 : M0 185 ls (.int v :: .ref b :: st) (put b pre s A post) Q = M0 188 ls st (put b pre (ou s 12 v) A post) Q := w_put (show decode kb0 185 = .ok (.putfield 85, 3) from by decide +kernel) pf0_85 put_o (Nat.zero_le _) (by show 24 < 29; omega) rfl put_s12
theorem m0_188 : M0 188 [.val (.ref r), l1, l2] st H Q = M0 189 [.val (.ref r), l1, l2] (.ref r :: st) H Q := w_x (show decode kb0 188 = .ok (.aload_n 0, 1) from by decide +kernel) rfl
theorem m0_189 : M0 189 ls st H Q = M0 190 ls (.int 0 :: st) H Q := w_con (show decode kb0 189 = .ok (.iconst 0, 1) from by decide +kernel) rfl (by decide)
theorem pf0_88 : pfR tables_1 y0.cls y0.name 88 = some ("StreamSigScanner", 25, .boolean) := by decide +kernel
theorem m0_190 : M0 190 ls (.int v :: .ref b :: st) (put b pre s A post) Q = M0 193 ls st (put b pre (ou s 13 (nar .boolean v)) A post) Q := w_put (show decode kb0 190 = .ok (.putfield 88, 3) from by decide +kernel) pf0_88 put_o (Nat.zero_le _) (by show 25 < 29; omega) rfl put_s13
theorem m0_193 : M0 193 [.val (.ref r), l1, l2] st H Q = M0 194 [.val (.ref r), l1, l2] (.ref r :: st) H Q := w_x (show decode kb0 193 = .ok (.aload_n 0, 1) from by decide +kernel) rfl
theorem m0_194 : M0 194 ls st H Q = M0 195 ls (.int (-1) :: st) H Q := w_con (show decode kb0 194 = .ok (.iconst (-1), 1) from by decide +kernel) rfl (by decide)
theorem pf0_91 : pfR tables_1 y0.cls y0.name 91 = some ("StreamSigScanner", 26, .int) := by decide +kernel
theorem m0_195 : M0 195 ls (.int v :: .ref b :: st) (put b pre s A post) Q = M0 198 ls st (put b pre (ou s 14 v) A post) Q := w_put (show decode kb0 195 = .ok (.putfield 91, 3) from by decide +kernel) pf0_91 put_o (Nat.zero_le _) (by show 26 < 29; omega) rfl put_s14
theorem m0_198 : M0 198 [.val (.ref r), l1, l2] st H Q = M0 199 [.val (.ref r), l1, l2] (.ref r :: st) H Q := w_x (show decode kb0 198 = .ok (.aload_n 0, 1) from by decide +kernel) rfl
theorem m0_199 : M0 199 ls st H Q = M0 200 ls (.int 0 :: st) H Q := w_con (show decode kb0 199 = .ok (.iconst 0, 1) from by decide +kernel) rfl (by decide)
theorem pf0_94 : pfR tables_1 y0.cls y0.name 94 = some ("StreamSigScanner", 27, .int) := by decide +kernel
theorem m0_200 : M0 200 ls (.int v :: .ref b :: st) (put b pre s A post) Q = M0 203 ls st (put b pre (ou s 15 v) A post) Q := w_put (show decode kb0 200 = .ok (.putfield 94, 3) from by decide +kernel) pf0_94 put_o (Nat.zero_le _) (by show 27 < 29; omega) rfl put_s15
theorem m0_203 : M0 203 [.val (.ref r), l1, l2] st H Q = M0 204 [.val (.ref r), l1, l2] (.ref r :: st) H Q := w_x (show decode kb0 203 = .ok (.aload_n 0, 1) from by decide +kernel) rfl
theorem m0_204 : M0 204 ls st H Q = M0 205 ls (.int 0 :: st) H Q := w_con (show decode kb0 204 = .ok (.iconst 0, 1) from by decide +kernel) rfl (by decide)
theorem pf0_97 : pfR tables_1 y0.cls y0.name 97 = some ("StreamSigScanner", 28, .int) := by decide +kernel
theorem m0_205 : M0 205 ls (.int v :: .ref b :: st) (put b pre s A post) Q = M0 208 ls st (put b pre (ou s 16 v) A post) Q := w_put (show decode kb0 205 = .ok (.putfield 97, 3) from by decide +kernel) pf0_97 put_o (Nat.zero_le _) (by show 28 < 29; omega) rfl put_s16
theorem m0_208 : M0 208 ls [] H Q = Q none H := w_vret (show decode kb0 208 = .ok (.return_, 1) from by decide +kernel) rfl
theorem m1_0 : M1 0 [l0, .val (.int v)] st H Q = M1 1 [l0, .val (.int v)] (.int v :: st) H Q := w_x (show decode kb1 0 = .ok (.iload_n 1, 1) from by decide +kernel) rfl
theorem m1_1_0 : M1 1 ls (.int 0 :: st) H Q = M1 76 ls st H Q := w_x (show decode kb1 1 = .ok (.tableswitch 180 0 14 #[75, 80, 85, 90, 95, 100, 105, 110, 115, 120, 129, 138, 154, 170, 175], 75) from by decide +kernel) rfl
theorem m1_1_1 : M1 1 ls (.int 1 :: st) H Q = M1 81 ls st H Q := w_x (show decode kb1 1 = .ok (.tableswitch 180 0 14 #[75, 80, 85, 90, 95, 100, 105, 110, 115, 120, 129, 138, 154, 170, 175], 75) from by decide +kernel) rfl
theorem m1_1_2 : M1 1 ls (.int 2 :: st) H Q = M1 86 ls st H Q := w_x (show decode kb1 1 = .ok (.tableswitch 180 0 14 #[75, 80, 85, 90, 95, 100, 105, 110, 115, 120, 129, 138, 154, 170, 175], 75) from by decide +kernel) rfl
theorem m1_1_3 : M1 1 ls (.int 3 :: st) H Q = M1 91 ls st H Q := w_x (show decode kb1 1 = .ok (.tableswitch 180 0 14 #[75, 80, 85, 90, 95, 100, 105, 110, 115, 120, 129, 138, 154, 170, 175], 75) from by decide +kernel) rfl
theorem m1_1_4 : M1 1 ls (.int 4 :: st) H Q = M1 96 ls st H Q := w_x (show decode kb1 1 = .ok (.tableswitch 180 0 14 #[75, 80, 85, 90, 95, 100, 105, 110, 115, 120, 129, 138, 154, 170, 175], 75) from by decide +kernel) rfl
theorem m1_1_5 : M1 1 ls (.int 5 :: st) H Q = M1 101 ls st H Q := w_x (show decode kb1 1 = .ok (.tableswitch 180 0 14 #[75, 80, 85, 90, 95, 100, 105, 110, 115, 120, 129, 138, 154, 170, 175], 75) from by decide +kernel) rfl
theorem m1_1_6 : M1 1 ls (.int 6 :: st) H Q = M1 106 ls st H Q := w_x (show decode kb1 1 = .ok (.tableswitch 180 0 14 #[75, 80, 85, 90, 95, 100, 105, 110, 115, 120, 129, 138, 154, 170, 175], 75) from by decide +kernel) rfl
theorem m1_1_7 : M1 1 ls (.int 7 :: st) H Q = M1 111 ls st H Q := w_x (show decode kb1 1 = .ok (.tableswitch 180 0 14 #[75, 80, 85, 90, 95, 100, 105, 110, 115, 120, 129, 138, 154, 170, 175], 75) from by decide +kernel) rfl
theorem m1_1_8 : M1 1 ls (.int 8 :: st) H Q = M1 116 ls st H Q := w_x (show decode kb1 1 = .ok (.tableswitch 180 0 14 #[75, 80, 85, 90, 95, 100, 105, 110, 115, 120, 129, 138, 154, 170, 175], 75) from by decide +kernel) rfl
theorem m1_1_9 : M1 1 ls (.int 9 :: st) H Q = M1 121 ls st H Q := w_x (show decode kb1 1 = .ok (.tableswitch 180 0 14 #[75, 80, 85, 90, 95, 100, 105, 110, 115, 120, 129, 138, 154, 170, 175], 75) from by decide +kernel) rfl
theorem m1_1_10 : M1 1 ls (.int 10 :: st) H Q = M1 130 ls st H Q := w_x (show decode kb1 1 = .ok (.tableswitch 180 0 14 #[75, 80, 85, 90, 95, 100, 105, 110, 115, 120, 129, 138, 154, 170, 175], 75) from by decide +kernel) rfl
theorem m1_1_11 : M1 1 ls (.int 11 :: st) H Q = M1 139 ls st H Q := w_x (show decode kb1 1 = .ok (.tableswitch 180 0 14 #[75, 80, 85, 90, 95, 100, 105, 110, 115, 120, 129, 138, 154, 170, 175], 75) from by decide +kernel) rfl
theorem m1_1_12 : M1 1 ls (.int 12 :: st) H Q = M1 155 ls st H Q := w_x (show decode kb1 1 = .ok (.tableswitch 180 0 14 #[75, 80, 85, 90, 95, 100, 105, 110, 115, 120, 129, 138, 154, 170, 175], 75) from by decide +kernel) rfl
theorem m1_1_13 : M1 1 ls (.int 13 :: st) H Q = M1 171 ls st H Q := w_x (show decode kb1 1 = .ok (.tableswitch 180 0 14 #[75, 80, 85, 90, 95, 100, 105, 110, 115, 120, 129, 138, 154, 170, 175], 75) from by decide +kernel) rfl
theorem m1_1_14 : M1 1 ls (.int 14 :: st) H Q = M1 176 ls st H Q := w_x (show decode kb1 1 = .ok (.tableswitch 180 0 14 #[75, 80, 85, 90, 95, 100, 105, 110, 115, 120, 129, 138, 154, 170, 175], 75) from by decide +kernel) rfl
theorem m1_1_d (hx : x.toInt < 0 ∨ x.toInt > 14) : M1 1 ls (.int x :: st) H Q = M1 181 ls st H Q := w_x (show decode kb1 1 = .ok (.tableswitch 180 0 14 #[75, 80, 85, 90, 95, 100, 105, 110, 115, 120, 129, 138, 154, 170, 175], 75) from by decide +kernel) (by simp only [xstep, sw, hx, if_true]; rfl)
theorem m1_76 : M1 76 [.val (.ref r), l1] st H Q = M1 77 [.val (.ref r), l1] (.ref r :: st) H Q := w_x (show decode kb1 76 = .ok (.aload_n 0, 1) from by decide +kernel) rfl
theorem m1_77 : M1 77 ls (.ref b :: st) (put b pre s A post) Q = M1 80 ls (.int (s 7) :: st) (put b pre s A post) Q := w_get (show decode kb1 77 = .ok (.getfield 70, 3) from by decide +kernel) gf_70 put_o rfl
theorem m1_80 : M1 80 ls (.int z :: st) H Q = Q (some (.int z)) H := w_iret (show decode kb1 80 = .ok (.ireturn, 1) from by decide +kernel) rfl
theorem m1_81 : M1 81 [.val (.ref r), l1] st H Q = M1 82 [.val (.ref r), l1] (.ref r :: st) H Q := w_x (show decode kb1 81 = .ok (.aload_n 0, 1) from by decide +kernel) rfl
theorem m1_82 : M1 82 ls (.ref b :: st) (put b pre s A post) Q = M1 85 ls (.int (s 8) :: st) (put b pre s A post) Q := w_get (show decode kb1 82 = .ok (.getfield 73, 3) from by decide +kernel) gf_73 put_o rfl
theorem m1_85 : M1 85 ls (.int z :: st) H Q = Q (some (.int z)) H := w_iret (show decode kb1 85 = .ok (.ireturn, 1) from by decide +kernel) rfl
theorem m1_86 : M1 86 [.val (.ref r), l1] st H Q = M1 87 [.val (.ref r), l1] (.ref r :: st) H Q := w_x (show decode kb1 86 = .ok (.aload_n 0, 1) from by decide +kernel) rfl
theorem m1_87 : M1 87 ls (.ref b :: st) (put b pre s A post) Q = M1 90 ls (.int (s 9) :: st) (put b pre s A post) Q := w_get (show decode kb1 87 = .ok (.getfield 76, 3) from by decide +kernel) gf_76 put_o rfl
theorem m1_90 : M1 90 ls (.int z :: st) H Q = Q (some (.int z)) H := w_iret (show decode kb1 90 = .ok (.ireturn, 1) from by decide +kernel) rfl
theorem m1_91 : M1 91 [.val (.ref r), l1] st H Q = M1 92 [.val (.ref r), l1] (.ref r :: st) H Q := w_x (show decode kb1 91 = .ok (.aload_n 0, 1) from by decide +kernel) rfl
theorem m1_92 : M1 92 ls (.ref b :: st) (put b pre s A post) Q = M1 95 ls (.int (s 10) :: st) (put b pre s A post) Q := w_get (show decode kb1 92 = .ok (.getfield 79, 3) from by decide +kernel) gf_79 put_o rfl
theorem m1_95 : M1 95 ls (.int z :: st) H Q = Q (some (.int z)) H := w_iret (show decode kb1 95 = .ok (.ireturn, 1) from by decide +kernel) rfl
theorem m1_96 : M1 96 [.val (.ref r), l1] st H Q = M1 97 [.val (.ref r), l1] (.ref r :: st) H Q := w_x (show decode kb1 96 = .ok (.aload_n 0, 1) from by decide +kernel) rfl
theorem m1_97 : M1 97 ls (.ref b :: st) (put b pre s A post) Q = M1 100 ls (.int (s 11) :: st) (put b pre s A post) Q := w_get (show decode kb1 97 = .ok (.getfield 82, 3) from by decide +kernel) gf_82 put_o rfl
theorem m1_100 : M1 100 ls (.int z :: st) H Q = Q (some (.int z)) H := w_iret (show decode kb1 100 = .ok (.ireturn, 1) from by decide +kernel) rfl
theorem m1_101 : M1 101 [.val (.ref r), l1] st H Q = M1 102 [.val (.ref r), l1] (.ref r :: st) H Q := w_x (show decode kb1 101 = .ok (.aload_n 0, 1) from by decide +kernel) rfl
theorem m1_102 : M1 102 ls (.ref b :: st) (put b pre s A post) Q = M1 105 ls (.int (s 16) :: st) (put b pre s A post) Q := w_get (show decode kb1 102 = .ok (.getfield 97, 3) from by decide +kernel) gf_97 put_o rfl
theorem m1_105 : M1 105 ls (.int z :: st) H Q = Q (some (.int z)) H := w_iret (show decode kb1 105 = .ok (.ireturn, 1) from by decide +kernel) rfl
theorem m1_106 : M1 106 [.val (.ref r), l1] st H Q = M1 107 [.val (.ref r), l1] (.ref r :: st) H Q := w_x (show decode kb1 106 = .ok (.aload_n 0, 1) from by decide +kernel) rfl
theorem m1_107 : M1 107 ls (.ref b :: st) (put b pre s A post) Q = M1 110 ls (.int (s 2) :: st) (put b pre s A post) Q := w_get (show decode kb1 107 = .ok (.getfield 55, 3) from by decide +kernel) gf_55 put_o rfl
theorem m1_110 : M1 110 ls (.int z :: st) H Q = Q (some (.int z)) H := w_iret (show decode kb1 110 = .ok (.ireturn, 1) from by decide +kernel) rfl
theorem m1_111 : M1 111 [.val (.ref r), l1] st H Q = M1 112 [.val (.ref r), l1] (.ref r :: st) H Q := w_x (show decode kb1 111 = .ok (.aload_n 0, 1) from by decide +kernel) rfl
theorem m1_112 : M1 112 ls (.ref b :: st) (put b pre s A post) Q = M1 115 ls (.int (s 3) :: st) (put b pre s A post) Q := w_get (show decode kb1 112 = .ok (.getfield 58, 3) from by decide +kernel) gf_58 put_o rfl
theorem m1_115 : M1 115 ls (.int z :: st) H Q = Q (some (.int z)) H := w_iret (show decode kb1 115 = .ok (.ireturn, 1) from by decide +kernel) rfl
theorem m1_116 : M1 116 [.val (.ref r), l1] st H Q = M1 117 [.val (.ref r), l1] (.ref r :: st) H Q := w_x (show decode kb1 116 = .ok (.aload_n 0, 1) from by decide +kernel) rfl
theorem m1_117 : M1 117 ls (.ref b :: st) (put b pre s A post) Q = M1 120 ls (.int (s 4) :: st) (put b pre s A post) Q := w_get (show decode kb1 117 = .ok (.getfield 61, 3) from by decide +kernel) gf_61 put_o rfl
theorem m1_120 : M1 120 ls (.int z :: st) H Q = Q (some (.int z)) H := w_iret (show decode kb1 120 = .ok (.ireturn, 1) from by decide +kernel) rfl
theorem m1_121 : M1 121 [.val (.ref r), l1] st H Q = M1 122 [.val (.ref r), l1] (.ref r :: st) H Q := w_x (show decode kb1 121 = .ok (.aload_n 0, 1) from by decide +kernel) rfl
theorem m1_122 : M1 122 [.val (.ref r), l1] st H Q = M1 123 [.val (.ref r), l1] (.ref r :: st) H Q := w_x (show decode kb1 122 = .ok (.aload_n 0, 1) from by decide +kernel) rfl
theorem m1_123 : M1 123 ls (.ref b :: st) (put b pre s A post) Q = M1 126 ls (.int (s 1) :: st) (put b pre s A post) Q := w_get (show decode kb1 123 = .ok (.getfield 51, 3) from by decide +kernel) gf_51 put_o rfl
theorem cr1_134 : vR tables_1 dn y1 134 = some (true, y7, prog_1_method_26_code, 2, (some .int), 1, 0) := pR_of (cR_of (by decide +kernel) rc_7 dn_7 dn_1 (sig := ⟨[.boolean], some .int⟩) (by decide +kernel) (by decide +kernel) rfl rfl) (by decide +kernel) (by decide +kernel)
theorem m1_126 (a0 : Int32) : M1 126 ls [.int a0, .ref b] (put b pre s A post) Q = M7 0 [.val (.ref b), .val (.int a0)] [] (put b pre s A post) (fun v H1 => M1 129 ls (v.toList ++ []) H1 Q) := w_virt (as := [.int a0]) (rest := []) (a := b) (show decode kb1 126 = .ok (.invokevirtual 134, 3) from by decide +kernel) cr1_134 put_o rfl rfl (Nat.le_of_ble_eq_true rfl) (by show 2 ≤ 2; omega) rfl
theorem m1_129 : M1 129 ls (.int z :: st) H Q = Q (some (.int z)) H := w_iret (show decode kb1 129 = .ok (.ireturn, 1) from by decide +kernel) rfl
theorem m1_130 : M1 130 [.val (.ref r), l1] st H Q = M1 131 [.val (.ref r), l1] (.ref r :: st) H Q := w_x (show decode kb1 130 = .ok (.aload_n 0, 1) from by decide +kernel) rfl
theorem m1_131 : M1 131 [.val (.ref r), l1] st H Q = M1 132 [.val (.ref r), l1] (.ref r :: st) H Q := w_x (show decode kb1 131 = .ok (.aload_n 0, 1) from by decide +kernel) rfl
theorem m1_132 : M1 132 ls (.ref b :: st) (put b pre s A post) Q = M1 135 ls (.int (s 13) :: st) (put b pre s A post) Q := w_get (show decode kb1 132 = .ok (.getfield 88, 3) from by decide +kernel) gf_88 put_o rfl
theorem m1_135 (a0 : Int32) : M1 135 ls [.int a0, .ref b] (put b pre s A post) Q = M7 0 [.val (.ref b), .val (.int a0)] [] (put b pre s A post) (fun v H1 => M1 138 ls (v.toList ++ []) H1 Q) := w_virt (as := [.int a0]) (rest := []) (a := b) (show decode kb1 135 = .ok (.invokevirtual 134, 3) from by decide +kernel) cr1_134 put_o rfl rfl (Nat.le_of_ble_eq_true rfl) (by show 2 ≤ 2; omega) rfl
theorem m1_138 : M1 138 ls (.int z :: st) H Q = Q (some (.int z)) H := w_iret (show decode kb1 138 = .ok (.ireturn, 1) from by decide +kernel) rfl
theorem m1_139 : M1 139 [.val (.ref r), l1] st H Q = M1 140 [.val (.ref r), l1] (.ref r :: st) H Q := w_x (show decode kb1 139 = .ok (.aload_n 0, 1) from by decide +kernel) rfl
theorem m1_140 : M1 140 ls (.ref b :: st) (put b pre s A post) Q = M1 143 ls (.int (s 13) :: st) (put b pre s A post) Q := w_get (show decode kb1 140 = .ok (.getfield 88, 3) from by decide +kernel) gf_88 put_o rfl
theorem m1_143 : M1 143 ls (.int x :: st) H Q = if x = 0 then M1 153 ls st H Q else M1 146 ls st H Q := w_if (show decode kb1 143 = .ok (.ifCond .eq 10, 3) from by decide +kernel) (z_eq x) rfl
theorem m1_146 : M1 146 [.val (.ref r), l1] st H Q = M1 147 [.val (.ref r), l1] (.ref r :: st) H Q := w_x (show decode kb1 146 = .ok (.aload_n 0, 1) from by decide +kernel) rfl
theorem m1_147 : M1 147 ls (.ref b :: st) (put b pre s A post) Q = M1 150 ls (.int (s 14) :: st) (put b pre s A post) Q := w_get (show decode kb1 147 = .ok (.getfield 91, 3) from by decide +kernel) gf_91 put_o rfl
theorem m1_150 : M1 150 ls st H Q = M1 154 ls st H Q := w_x (show decode kb1 150 = .ok (.goto 4, 3) from by decide +kernel) rfl
theorem m1_153 : M1 153 ls st H Q = M1 154 ls (.int (-1) :: st) H Q := w_con (show decode kb1 153 = .ok (.iconst (-1), 1) from by decide +kernel) rfl (by decide)
theorem m1_154 : M1 154 ls (.int z :: st) H Q = Q (some (.int z)) H := w_iret (show decode kb1 154 = .ok (.ireturn, 1) from by decide +kernel) rfl
theorem m1_155 : M1 155 [.val (.ref r), l1] st H Q = M1 156 [.val (.ref r), l1] (.ref r :: st) H Q := w_x (show decode kb1 155 = .ok (.aload_n 0, 1) from by decide +kernel) rfl
theorem m1_156 : M1 156 ls (.ref b :: st) (put b pre s A post) Q = M1 159 ls (.int (s 13) :: st) (put b pre s A post) Q := w_get (show decode kb1 156 = .ok (.getfield 88, 3) from by decide +kernel) gf_88 put_o rfl
theorem m1_159 : M1 159 ls (.int x :: st) H Q = if x = 0 then M1 169 ls st H Q else M1 162 ls st H Q := w_if (show decode kb1 159 = .ok (.ifCond .eq 10, 3) from by decide +kernel) (z_eq x) rfl
theorem m1_162 : M1 162 [.val (.ref r), l1] st H Q = M1 163 [.val (.ref r), l1] (.ref r :: st) H Q := w_x (show decode kb1 162 = .ok (.aload_n 0, 1) from by decide +kernel) rfl
theorem m1_163 : M1 163 ls (.ref b :: st) (put b pre s A post) Q = M1 166 ls (.int (s 15) :: st) (put b pre s A post) Q := w_get (show decode kb1 163 = .ok (.getfield 94, 3) from by decide +kernel) gf_94 put_o rfl
theorem m1_166 : M1 166 ls st H Q = M1 170 ls st H Q := w_x (show decode kb1 166 = .ok (.goto 4, 3) from by decide +kernel) rfl
theorem m1_169 : M1 169 ls st H Q = M1 170 ls (.int 0 :: st) H Q := w_con (show decode kb1 169 = .ok (.iconst 0, 1) from by decide +kernel) rfl (by decide)
theorem m1_170 : M1 170 ls (.int z :: st) H Q = Q (some (.int z)) H := w_iret (show decode kb1 170 = .ok (.ireturn, 1) from by decide +kernel) rfl
theorem m1_171 : M1 171 [.val (.ref r), l1] st H Q = M1 172 [.val (.ref r), l1] (.ref r :: st) H Q := w_x (show decode kb1 171 = .ok (.aload_n 0, 1) from by decide +kernel) rfl
theorem m1_172 : M1 172 ls (.ref b :: st) (put b pre s A post) Q = M1 175 ls (.int (s 12) :: st) (put b pre s A post) Q := w_get (show decode kb1 172 = .ok (.getfield 85, 3) from by decide +kernel) gf_85 put_o rfl
theorem m1_175 : M1 175 ls (.int z :: st) H Q = Q (some (.int z)) H := w_iret (show decode kb1 175 = .ok (.ireturn, 1) from by decide +kernel) rfl
theorem m1_176 : M1 176 [.val (.ref r), l1] st H Q = M1 177 [.val (.ref r), l1] (.ref r :: st) H Q := w_x (show decode kb1 176 = .ok (.aload_n 0, 1) from by decide +kernel) rfl
theorem m1_177 : M1 177 ls (.ref b :: st) (put b pre s A post) Q = M1 180 ls (.int (s 0) :: st) (put b pre s A post) Q := w_get (show decode kb1 177 = .ok (.getfield 47, 3) from by decide +kernel) gf_47 put_o rfl
theorem m1_180 : M1 180 ls (.int z :: st) H Q = Q (some (.int z)) H := w_iret (show decode kb1 180 = .ok (.ireturn, 1) from by decide +kernel) rfl
theorem m1_181 : M1 181 ls st H Q = M1 182 ls (.int (-1) :: st) H Q := w_con (show decode kb1 181 = .ok (.iconst (-1), 1) from by decide +kernel) rfl (by decide)
theorem m1_182 : M1 182 ls (.int z :: st) H Q = Q (some (.int z)) H := w_iret (show decode kb1 182 = .ok (.ireturn, 1) from by decide +kernel) rfl
theorem m2_0 : M2 0 [.val (.ref r)] st H Q = M2 1 [.val (.ref r)] (.ref r :: st) H Q := w_x (show decode kb2 0 = .ok (.aload_n 0, 1) from by decide +kernel) rfl
theorem m2_1 : M2 1 ls (.ref b :: st) (put b pre s A post) Q = M2 4 ls (.int (s 1) :: st) (put b pre s A post) Q := w_get (show decode kb2 1 = .ok (.getfield 51, 3) from by decide +kernel) gf_51 put_o rfl
theorem m2_4 : M2 4 ls (.int x :: st) H Q = if x = 0 then M2 9 ls st H Q else M2 7 ls st H Q := w_if (show decode kb2 4 = .ok (.ifCond .eq 5, 3) from by decide +kernel) (z_eq x) rfl
theorem m2_7 : M2 7 ls st H Q = M2 8 ls (.int (-1) :: st) H Q := w_con (show decode kb2 7 = .ok (.iconst (-1), 1) from by decide +kernel) rfl (by decide)
theorem m2_8 : M2 8 ls (.int z :: st) H Q = Q (some (.int z)) H := w_iret (show decode kb2 8 = .ok (.ireturn, 1) from by decide +kernel) rfl
theorem m2_9 : M2 9 [.val (.ref r)] st H Q = M2 10 [.val (.ref r)] (.ref r :: st) H Q := w_x (show decode kb2 9 = .ok (.aload_n 0, 1) from by decide +kernel) rfl
theorem m2_10 : M2 10 ls (.ref b :: st) (put b pre s A post) Q = M2 13 ls (.int (s 4) :: st) (put b pre s A post) Q := w_get (show decode kb2 10 = .ok (.getfield 61, 3) from by decide +kernel) gf_61 put_o rfl
theorem m2_13 : M2 13 ls (.int x :: st) H Q = if x = 0 then M2 18 ls st H Q else M2 16 ls st H Q := w_if (show decode kb2 13 = .ok (.ifCond .eq 5, 3) from by decide +kernel) (z_eq x) rfl
theorem m2_16 : M2 16 ls st H Q = M2 17 ls (.int (-1) :: st) H Q := w_con (show decode kb2 16 = .ok (.iconst (-1), 1) from by decide +kernel) rfl (by decide)
theorem m2_17 : M2 17 ls (.int z :: st) H Q = Q (some (.int z)) H := w_iret (show decode kb2 17 = .ok (.ireturn, 1) from by decide +kernel) rfl
theorem m2_18 : M2 18 [.val (.ref r)] st H Q = M2 19 [.val (.ref r)] (.ref r :: st) H Q := w_x (show decode kb2 18 = .ok (.aload_n 0, 1) from by decide +kernel) rfl
theorem m2_19 : M2 19 ls (.ref b :: st) (put b pre s A post) Q = M2 22 ls (.int (s 2) :: st) (put b pre s A post) Q := w_get (show decode kb2 19 = .ok (.getfield 55, 3) from by decide +kernel) gf_55 put_o rfl
theorem m2_22 : M2 22 ls (.int x :: st) H Q = if x = 0 then M2 25 ls st H Q else M2 28 ls st H Q := w_ifN (show decode kb2 22 = .ok (.ifCond .ne 6, 3) from by decide +kernel) (z_ne x) rfl
theorem m2_25 : M2 25 ls st H Q = M2 27 ls (.int (-4) :: st) H Q := w_con (show decode kb2 25 = .ok (.bipush (-4), 2) from by decide +kernel) rfl (by decide)
theorem m2_27 : M2 27 ls (.int z :: st) H Q = Q (some (.int z)) H := w_iret (show decode kb2 27 = .ok (.ireturn, 1) from by decide +kernel) rfl
theorem m2_28 : M2 28 [.val (.ref r)] st H Q = M2 29 [.val (.ref r)] (.ref r :: st) H Q := w_x (show decode kb2 28 = .ok (.aload_n 0, 1) from by decide +kernel) rfl
theorem m3_0 : M3 0 [.val (.ref r), l1] st H Q = M3 1 [.val (.ref r), l1] (.ref r :: st) H Q := w_x (show decode kb3 0 = .ok (.aload_n 0, 1) from by decide +kernel) rfl
theorem m3_1 : M3 1 ls (.ref b :: st) (put b pre s A post) Q = M3 4 ls (.int (s 1) :: st) (put b pre s A post) Q := w_get (show decode kb3 1 = .ok (.getfield 51, 3) from by decide +kernel) gf_51 put_o rfl
theorem m3_4 : M3 4 ls (.int x :: st) H Q = if x = 0 then M3 9 ls st H Q else M3 7 ls st H Q := w_if (show decode kb3 4 = .ok (.ifCond .eq 5, 3) from by decide +kernel) (z_eq x) rfl
theorem m3_7 : M3 7 ls st H Q = M3 8 ls (.int (-1) :: st) H Q := w_con (show decode kb3 7 = .ok (.iconst (-1), 1) from by decide +kernel) rfl (by decide)
theorem m3_8 : M3 8 ls (.int z :: st) H Q = Q (some (.int z)) H := w_iret (show decode kb3 8 = .ok (.ireturn, 1) from by decide +kernel) rfl
theorem m3_9 : M3 9 [.val (.ref r), l1] st H Q = M3 10 [.val (.ref r), l1] (.ref r :: st) H Q := w_x (show decode kb3 9 = .ok (.aload_n 0, 1) from by decide +kernel) rfl
theorem m3_10 : M3 10 ls (.ref b :: st) (put b pre s A post) Q = M3 13 ls (.int (s 4) :: st) (put b pre s A post) Q := w_get (show decode kb3 10 = .ok (.getfield 61, 3) from by decide +kernel) gf_61 put_o rfl
theorem m3_13 : M3 13 ls (.int x :: st) H Q = if x = 0 then M3 16 ls st H Q else M3 19 ls st H Q := w_ifN (show decode kb3 13 = .ok (.ifCond .ne 6, 3) from by decide +kernel) (z_ne x) rfl
theorem m3_16 : M3 16 ls st H Q = M3 18 ls (.int (-4) :: st) H Q := w_con (show decode kb3 16 = .ok (.bipush (-4), 2) from by decide +kernel) rfl (by decide)
theorem m3_18 : M3 18 ls (.int z :: st) H Q = Q (some (.int z)) H := w_iret (show decode kb3 18 = .ok (.ireturn, 1) from by decide +kernel) rfl
theorem m3_19 : M3 19 [.val (.ref r), l1] st H Q = M3 20 [.val (.ref r), l1] (.ref r :: st) H Q := w_x (show decode kb3 19 = .ok (.aload_n 0, 1) from by decide +kernel) rfl
theorem m3_20 : M3 20 ls (.ref b :: st) (put b pre s A post) Q = M3 23 ls (.int (s 2) :: st) (put b pre s A post) Q := w_get (show decode kb3 20 = .ok (.getfield 55, 3) from by decide +kernel) gf_55 put_o rfl
theorem m3_23u : M3 23 [l0, .unset] ((.int v) :: st) H Q = M3 24 [l0, .val (.int v)] st H Q := w_st (i := 1) (p := isI) (show decode kb3 23 = .ok (.istore_n 1, 1) from by decide +kernel) rfl rfl rfl rfl rfl rfl
theorem m3_24 : M3 24 [l0, .val (.int v)] st H Q = M3 25 [l0, .val (.int v)] (.int v :: st) H Q := w_x (show decode kb3 24 = .ok (.iload_n 1, 1) from by decide +kernel) rfl
theorem m3_25 : M3 25 ls (.int x :: st) H Q = if x < 0 then M3 34 ls st H Q else M3 28 ls st H Q := w_if (show decode kb3 25 = .ok (.ifCond .lt 9, 3) from by decide +kernel) (z_lt x) rfl
theorem m3_28 : M3 28 [l0, .val (.int v)] st H Q = M3 29 [l0, .val (.int v)] (.int v :: st) H Q := w_x (show decode kb3 28 = .ok (.iload_n 1, 1) from by decide +kernel) rfl
theorem m3_29 : M3 29 ls st H Q = M3 31 ls (.int 16 :: st) H Q := w_con (show decode kb3 29 = .ok (.bipush 16, 2) from by decide +kernel) rfl (by decide)
theorem m3_31 : M3 31 ls (.int y :: .int x :: st) H Q = if x < y then M3 37 ls st H Q else M3 34 ls st H Q := w_icmp (show decode kb3 31 = .ok (.if_icmp .lt 6, 3) from by decide +kernel) (i_lt x y) rfl
theorem m3_34 : M3 34 ls st H Q = M3 36 ls (.int (-3) :: st) H Q := w_con (show decode kb3 34 = .ok (.bipush (-3), 2) from by decide +kernel) rfl (by decide)
theorem m3_36 : M3 36 ls (.int z :: st) H Q = Q (some (.int z)) H := w_iret (show decode kb3 36 = .ok (.ireturn, 1) from by decide +kernel) rfl
theorem m3_37 : M3 37 [.val (.ref r), l1] st H Q = M3 38 [.val (.ref r), l1] (.ref r :: st) H Q := w_x (show decode kb3 37 = .ok (.aload_n 0, 1) from by decide +kernel) rfl
theorem m3_38 : M3 38 ls (.ref b :: st) (put b pre s A post) Q = M3 41 ls (.ref (b + 2) :: st) (put b pre s A post) Q := w_get (show decode kb3 38 = .ok (.getfield 13, 3) from by decide +kernel) gf_13 put_o rfl
theorem m3_41 : M3 41 [l0, .val (.int v)] st H Q = M3 42 [l0, .val (.int v)] (.int v :: st) H Q := w_x (show decode kb3 41 = .ok (.iload_n 1, 1) from by decide +kernel) rfl
theorem m3_42 : M3 42 [.val (.ref r), l1] st H Q = M3 43 [.val (.ref r), l1] (.ref r :: st) H Q := w_x (show decode kb3 42 = .ok (.aload_n 0, 1) from by decide +kernel) rfl
theorem m3_43 : M3 43 ls (.ref b :: st) (put b pre s A post) Q = M3 46 ls (.int (s 3) :: st) (put b pre s A post) Q := w_get (show decode kb3 43 = .ok (.getfield 58, 3) from by decide +kernel) gf_58 put_o rfl
theorem m3_46  : M3 46 ls (.int v :: .int j :: .ref (b + 2) :: st) (put b pre s A post) Q = (inB j (A 1) ∧ M3 47 ls st (put b pre s (ou A 1 (setA (A 1) j v)) post) Q) := w_ist (show decode kb3 46 = .ok (.iastore, 1) from by decide +kernel) rfl put_a1 (Nat.zero_le _) rfl put_w1
theorem m3_47 : M3 47 [.val (.ref r), l1] st H Q = M3 48 [.val (.ref r), l1] (.ref r :: st) H Q := w_x (show decode kb3 47 = .ok (.aload_n 0, 1) from by decide +kernel) rfl
theorem m3_48 : M3 48 ls (.ref b :: st) (put b pre s A post) Q = M3 51 ls (.ref (b + 3) :: st) (put b pre s A post) Q := w_get (show decode kb3 48 = .ok (.getfield 16, 3) from by decide +kernel) gf_16 put_o rfl
theorem m3_51 : M3 51 [l0, .val (.int v)] st H Q = M3 52 [l0, .val (.int v)] (.int v :: st) H Q := w_x (show decode kb3 51 = .ok (.iload_n 1, 1) from by decide +kernel) rfl
theorem m3_52 : M3 52 [.val (.ref r), l1] st H Q = M3 53 [.val (.ref r), l1] (.ref r :: st) H Q := w_x (show decode kb3 52 = .ok (.aload_n 0, 1) from by decide +kernel) rfl
theorem m3_53 : M3 53 ls (.ref b :: st) (put b pre s A post) Q = M3 56 ls (.int (s 4) :: st) (put b pre s A post) Q := w_get (show decode kb3 53 = .ok (.getfield 61, 3) from by decide +kernel) gf_61 put_o rfl
theorem m3_56  : M3 56 ls (.int v :: .int j :: .ref (b + 3) :: st) (put b pre s A post) Q = (inB j (A 2) ∧ M3 57 ls st (put b pre s (ou A 2 (setA (A 2) j v)) post) Q) := w_ist (show decode kb3 56 = .ok (.iastore, 1) from by decide +kernel) rfl put_a2 (Nat.zero_le _) rfl put_w2
theorem m3_57 : M3 57 [.val (.ref r), l1] st H Q = M3 58 [.val (.ref r), l1] (.ref r :: st) H Q := w_x (show decode kb3 57 = .ok (.aload_n 0, 1) from by decide +kernel) rfl
theorem m3_58 : M3 58 ls ((.ref r) :: st) H Q = M3 59 ls ((.ref r) :: (.ref r) :: st) H Q := w_x (show decode kb3 58 = .ok (.dup, 1) from by decide +kernel) rfl
theorem m3_59 : M3 59 ls (.ref b :: st) (put b pre s A post) Q = M3 62 ls (.int (s 3) :: st) (put b pre s A post) Q := w_get (show decode kb3 59 = .ok (.getfield 58, 3) from by decide +kernel) gf_58 put_o rfl
theorem m3_62 : M3 62 [.val (.ref r), l1] st H Q = M3 63 [.val (.ref r), l1] (.ref r :: st) H Q := w_x (show decode kb3 62 = .ok (.aload_n 0, 1) from by decide +kernel) rfl
theorem m3_63 : M3 63 ls (.ref b :: st) (put b pre s A post) Q = M3 66 ls (.int (s 4) :: st) (put b pre s A post) Q := w_get (show decode kb3 63 = .ok (.getfield 61, 3) from by decide +kernel) gf_61 put_o rfl
theorem m3_66 : M3 66 ls (.int y :: .int x :: st) H Q = M3 67 ls (.int (x + y) :: st) H Q := w_x (show decode kb3 66 = .ok (.iadd, 1) from by decide +kernel) rfl
theorem pf3_58 : pfR tables_1 y3.cls y3.name 58 = some ("StreamSigScanner", 15, .int) := by decide +kernel
theorem m3_67 : M3 67 ls (.int v :: .ref b :: st) (put b pre s A post) Q = M3 70 ls st (put b pre (ou s 3 v) A post) Q := w_put (show decode kb3 67 = .ok (.putfield 58, 3) from by decide +kernel) pf3_58 put_o (Nat.zero_le _) (by show 15 < 29; omega) rfl put_s3
theorem m3_70 : M3 70 [.val (.ref r), l1] st H Q = M3 71 [.val (.ref r), l1] (.ref r :: st) H Q := w_x (show decode kb3 70 = .ok (.aload_n 0, 1) from by decide +kernel) rfl
theorem m3_71 : M3 71 ls st H Q = M3 72 ls (.int 0 :: st) H Q := w_con (show decode kb3 71 = .ok (.iconst 0, 1) from by decide +kernel) rfl (by decide)
theorem pf3_61 : pfR tables_1 y3.cls y3.name 61 = some ("StreamSigScanner", 16, .int) := by decide +kernel
theorem m3_72 : M3 72 ls (.int v :: .ref b :: st) (put b pre s A post) Q = M3 75 ls st (put b pre (ou s 4 v) A post) Q := w_put (show decode kb3 72 = .ok (.putfield 61, 3) from by decide +kernel) pf3_61 put_o (Nat.zero_le _) (by show 16 < 29; omega) rfl put_s4
theorem m3_75 : M3 75 [.val (.ref r), l1] st H Q = M3 76 [.val (.ref r), l1] (.ref r :: st) H Q := w_x (show decode kb3 75 = .ok (.aload_n 0, 1) from by decide +kernel) rfl
theorem m3_76 : M3 76 [l0, .val (.int v)] st H Q = M3 77 [l0, .val (.int v)] (.int v :: st) H Q := w_x (show decode kb3 76 = .ok (.iload_n 1, 1) from by decide +kernel) rfl
theorem m3_77 : M3 77 ls st H Q = M3 78 ls (.int 1 :: st) H Q := w_con (show decode kb3 77 = .ok (.iconst 1, 1) from by decide +kernel) rfl (by decide)
theorem m3_78 : M3 78 ls (.int y :: .int x :: st) H Q = M3 79 ls (.int (x + y) :: st) H Q := w_x (show decode kb3 78 = .ok (.iadd, 1) from by decide +kernel) rfl
theorem pf3_55 : pfR tables_1 y3.cls y3.name 55 = some ("StreamSigScanner", 14, .int) := by decide +kernel
theorem m3_79 : M3 79 ls (.int v :: .ref b :: st) (put b pre s A post) Q = M3 82 ls st (put b pre (ou s 2 v) A post) Q := w_put (show decode kb3 79 = .ok (.putfield 55, 3) from by decide +kernel) pf3_55 put_o (Nat.zero_le _) (by show 14 < 29; omega) rfl put_s2
theorem m3_82 : M3 82 [l0, .val (.int v)] st H Q = M3 83 [l0, .val (.int v)] (.int v :: st) H Q := w_x (show decode kb3 82 = .ok (.iload_n 1, 1) from by decide +kernel) rfl
theorem m3_83 : M3 83 ls (.int z :: st) H Q = Q (some (.int z)) H := w_iret (show decode kb3 83 = .ok (.ireturn, 1) from by decide +kernel) rfl
theorem m4_0 : M4 0 [.val (.ref r), l1] st H Q = M4 1 [.val (.ref r), l1] (.ref r :: st) H Q := w_x (show decode kb4 0 = .ok (.aload_n 0, 1) from by decide +kernel) rfl
theorem m4_1 : M4 1 ls (.ref b :: st) (put b pre s A post) Q = M4 4 ls (.int (s 1) :: st) (put b pre s A post) Q := w_get (show decode kb4 1 = .ok (.getfield 51, 3) from by decide +kernel) gf_51 put_o rfl
theorem m4_4 : M4 4 ls (.int x :: st) H Q = if x = 0 then M4 7 ls st H Q else M4 9 ls st H Q := w_ifN (show decode kb4 4 = .ok (.ifCond .ne 5, 3) from by decide +kernel) (z_ne x) rfl
theorem m4_7 : M4 7 ls st H Q = M4 8 ls (.int (-1) :: st) H Q := w_con (show decode kb4 7 = .ok (.iconst (-1), 1) from by decide +kernel) rfl (by decide)
theorem m4_8 : M4 8 ls (.int z :: st) H Q = Q (some (.int z)) H := w_iret (show decode kb4 8 = .ok (.ireturn, 1) from by decide +kernel) rfl
theorem m4_9 : M4 9 [.val (.ref r), l1] st H Q = M4 10 [.val (.ref r), l1] (.ref r :: st) H Q := w_x (show decode kb4 9 = .ok (.aload_n 0, 1) from by decide +kernel) rfl
theorem m4_10 : M4 10 ls (.ref b :: st) (put b pre s A post) Q = M4 13 ls (.int (s 13) :: st) (put b pre s A post) Q := w_get (show decode kb4 10 = .ok (.getfield 88, 3) from by decide +kernel) gf_88 put_o rfl
theorem m4_13 : M4 13 ls (.int x :: st) H Q = if x = 0 then M4 18 ls st H Q else M4 16 ls st H Q := w_if (show decode kb4 13 = .ok (.ifCond .eq 5, 3) from by decide +kernel) (z_eq x) rfl
theorem m4_16 : M4 16 ls st H Q = M4 17 ls (.int (-1) :: st) H Q := w_con (show decode kb4 16 = .ok (.iconst (-1), 1) from by decide +kernel) rfl (by decide)
theorem m4_17 : M4 17 ls (.int z :: st) H Q = Q (some (.int z)) H := w_iret (show decode kb4 17 = .ok (.ireturn, 1) from by decide +kernel) rfl
theorem m4_18 : M4 18 [.val (.ref r), l1] st H Q = M4 19 [.val (.ref r), l1] (.ref r :: st) H Q := w_x (show decode kb4 18 = .ok (.aload_n 0, 1) from by decide +kernel) rfl
theorem m4_19 : M4 19 [l0, .val (.int v)] st H Q = M4 20 [l0, .val (.int v)] (.int v :: st) H Q := w_x (show decode kb4 19 = .ok (.iload_n 1, 1) from by decide +kernel) rfl
theorem cr4_117 : vR tables_1 dn y4 117 = some (true, y6, prog_1_method_23_code, 2, (some .boolean), 1, 0) := pR_of (cR_of (by decide +kernel) rc_6 dn_6 dn_4 (sig := ⟨[.int], some .boolean⟩) (by decide +kernel) (by decide +kernel) rfl rfl) (by decide +kernel) (by decide +kernel)
theorem m4_20 (a0 : Int32) : M4 20 ls [.int a0, .ref b] (put b pre s A post) Q = M6 0 [.val (.ref b), .val (.int a0)] [] (put b pre s A post) (fun v H1 => M4 23 ls (v.toList ++ []) H1 Q) := w_virt (as := [.int a0]) (rest := []) (a := b) (show decode kb4 20 = .ok (.invokevirtual 117, 3) from by decide +kernel) cr4_117 put_o rfl rfl (Nat.le_of_ble_eq_true rfl) (by show 2 ≤ 2; omega) rfl
theorem m4_23 : M4 23 ls (.int x :: st) H Q = if x = 0 then M4 26 ls st H Q else M4 29 ls st H Q := w_ifN (show decode kb4 23 = .ok (.ifCond .ne 6, 3) from by decide +kernel) (z_ne x) rfl
theorem m4_26 : M4 26 ls st H Q = M4 28 ls (.int (-5) :: st) H Q := w_con (show decode kb4 26 = .ok (.bipush (-5), 2) from by decide +kernel) rfl (by decide)
theorem m4_28 : M4 28 ls (.int z :: st) H Q = Q (some (.int z)) H := w_iret (show decode kb4 28 = .ok (.ireturn, 1) from by decide +kernel) rfl
theorem m4_29 : M4 29 [.val (.ref r), l1] st H Q = M4 30 [.val (.ref r), l1] (.ref r :: st) H Q := w_x (show decode kb4 29 = .ok (.aload_n 0, 1) from by decide +kernel) rfl
theorem m4_30 : M4 30 ls st H Q = M4 31 ls (.int 1 :: st) H Q := w_con (show decode kb4 30 = .ok (.iconst 1, 1) from by decide +kernel) rfl (by decide)
theorem pf4_88 : pfR tables_1 y4.cls y4.name 88 = some ("StreamSigScanner", 25, .boolean) := by decide +kernel
theorem m4_31 : M4 31 ls (.int v :: .ref b :: st) (put b pre s A post) Q = M4 34 ls st (put b pre (ou s 13 (nar .boolean v)) A post) Q := w_put (show decode kb4 31 = .ok (.putfield 88, 3) from by decide +kernel) pf4_88 put_o (Nat.zero_le _) (by show 25 < 29; omega) rfl put_s13
theorem m4_34 : M4 34 [.val (.ref r), l1] st H Q = M4 35 [.val (.ref r), l1] (.ref r :: st) H Q := w_x (show decode kb4 34 = .ok (.aload_n 0, 1) from by decide +kernel) rfl
theorem m4_35 : M4 35 [l0, .val (.int v)] st H Q = M4 36 [l0, .val (.int v)] (.int v :: st) H Q := w_x (show decode kb4 35 = .ok (.iload_n 1, 1) from by decide +kernel) rfl
theorem pf4_91 : pfR tables_1 y4.cls y4.name 91 = some ("StreamSigScanner", 26, .int) := by decide +kernel
theorem m4_36 : M4 36 ls (.int v :: .ref b :: st) (put b pre s A post) Q = M4 39 ls st (put b pre (ou s 14 v) A post) Q := w_put (show decode kb4 36 = .ok (.putfield 91, 3) from by decide +kernel) pf4_91 put_o (Nat.zero_le _) (by show 26 < 29; omega) rfl put_s14
theorem m4_39 : M4 39 [.val (.ref r), l1] st H Q = M4 40 [.val (.ref r), l1] (.ref r :: st) H Q := w_x (show decode kb4 39 = .ok (.aload_n 0, 1) from by decide +kernel) rfl
theorem m4_40 : M4 40 ls st H Q = M4 41 ls (.int 0 :: st) H Q := w_con (show decode kb4 40 = .ok (.iconst 0, 1) from by decide +kernel) rfl (by decide)
theorem pf4_94 : pfR tables_1 y4.cls y4.name 94 = some ("StreamSigScanner", 27, .int) := by decide +kernel
theorem m4_41 : M4 41 ls (.int v :: .ref b :: st) (put b pre s A post) Q = M4 44 ls st (put b pre (ou s 15 v) A post) Q := w_put (show decode kb4 41 = .ok (.putfield 94, 3) from by decide +kernel) pf4_94 put_o (Nat.zero_le _) (by show 27 < 29; omega) rfl put_s15
theorem m4_44 : M4 44 ls st H Q = M4 45 ls (.int 0 :: st) H Q := w_con (show decode kb4 44 = .ok (.iconst 0, 1) from by decide +kernel) rfl (by decide)
theorem m4_45 : M4 45 ls (.int z :: st) H Q = Q (some (.int z)) H := w_iret (show decode kb4 45 = .ok (.ireturn, 1) from by decide +kernel) rfl
theorem m5_0 : M5 0 [.val (.ref r), l1] st H Q = M5 1 [.val (.ref r), l1] (.ref r :: st) H Q := w_x (show decode kb5 0 = .ok (.aload_n 0, 1) from by decide +kernel) rfl
theorem m5_1 : M5 1 [l0, .val (.int v)] st H Q = M5 2 [l0, .val (.int v)] (.int v :: st) H Q := w_x (show decode kb5 1 = .ok (.iload_n 1, 1) from by decide +kernel) rfl
theorem cr5_117 : vR tables_1 dn y5 117 = some (true, y6, prog_1_method_23_code, 2, (some .boolean), 1, 0) := pR_of (cR_of (by decide +kernel) rc_6 dn_6 dn_5 (sig := ⟨[.int], some .boolean⟩) (by decide +kernel) (by decide +kernel) rfl rfl) (by decide +kernel) (by decide +kernel)
theorem m5_2 (a0 : Int32) : M5 2 ls [.int a0, .ref b] (put b pre s A post) Q = M6 0 [.val (.ref b), .val (.int a0)] [] (put b pre s A post) (fun v H1 => M5 5 ls (v.toList ++ []) H1 Q) := w_virt (as := [.int a0]) (rest := []) (a := b) (show decode kb5 2 = .ok (.invokevirtual 117, 3) from by decide +kernel) cr5_117 put_o rfl rfl (Nat.le_of_ble_eq_true rfl) (by show 2 ≤ 2; omega) rfl
theorem m5_5 : M5 5 ls (.int x :: st) H Q = if x = 0 then M5 8 ls st H Q else M5 10 ls st H Q := w_ifN (show decode kb5 5 = .ok (.ifCond .ne 5, 3) from by decide +kernel) (z_ne x) rfl
theorem m5_8 : M5 8 ls st H Q = M5 9 ls (.int (-1) :: st) H Q := w_con (show decode kb5 8 = .ok (.iconst (-1), 1) from by decide +kernel) rfl (by decide)
theorem m5_9 : M5 9 ls (.int z :: st) H Q = Q (some (.int z)) H := w_iret (show decode kb5 9 = .ok (.ireturn, 1) from by decide +kernel) rfl
theorem m5_10 : M5 10 [.val (.ref r), l1] st H Q = M5 11 [.val (.ref r), l1] (.ref r :: st) H Q := w_x (show decode kb5 10 = .ok (.aload_n 0, 1) from by decide +kernel) rfl
theorem m5_11 : M5 11 ls (.ref b :: st) (put b pre s A post) Q = M5 14 ls (.ref (b + 8) :: st) (put b pre s A post) Q := w_get (show decode kb5 11 = .ok (.getfield 31, 3) from by decide +kernel) gf_31 put_o rfl
theorem m5_14 : M5 14 [l0, .val (.int v)] st H Q = M5 15 [l0, .val (.int v)] (.int v :: st) H Q := w_x (show decode kb5 14 = .ok (.iload_n 1, 1) from by decide +kernel) rfl
theorem m5_15  : M5 15 ls (.int j :: .ref (b + 8) :: st) (put b pre s A post) Q = (inB j (A 7) ∧ M5 16 ls (.int (getA (A 7) j) :: st) (put b pre s A post) Q) := w_ild (show decode kb5 15 = .ok (.baload, 1) from by decide +kernel) rfl put_a7
theorem m5_16 : M5 16 ls (.int x :: st) H Q = if x = 0 then M5 19 ls st H Q else M5 21 ls st H Q := w_ifN (show decode kb5 16 = .ok (.ifCond .ne 5, 3) from by decide +kernel) (z_ne x) rfl
theorem m5_19 : M5 19 ls st H Q = M5 20 ls (.int (-1) :: st) H Q := w_con (show decode kb5 19 = .ok (.iconst (-1), 1) from by decide +kernel) rfl (by decide)
theorem m5_20 : M5 20 ls (.int z :: st) H Q = Q (some (.int z)) H := w_iret (show decode kb5 20 = .ok (.ireturn, 1) from by decide +kernel) rfl
theorem m5_21 : M5 21 [.val (.ref r), l1] st H Q = M5 22 [.val (.ref r), l1] (.ref r :: st) H Q := w_x (show decode kb5 21 = .ok (.aload_n 0, 1) from by decide +kernel) rfl
theorem m5_22 : M5 22 ls (.ref b :: st) (put b pre s A post) Q = M5 25 ls (.ref (b + 9) :: st) (put b pre s A post) Q := w_get (show decode kb5 22 = .ok (.getfield 35, 3) from by decide +kernel) gf_35 put_o rfl
theorem m5_25 : M5 25 [l0, .val (.int v)] st H Q = M5 26 [l0, .val (.int v)] (.int v :: st) H Q := w_x (show decode kb5 25 = .ok (.iload_n 1, 1) from by decide +kernel) rfl
theorem m5_26  : M5 26 ls (.int j :: .ref (b + 9) :: st) (put b pre s A post) Q = (inB j (A 8) ∧ M5 27 ls (.int (getA (A 8) j) :: st) (put b pre s A post) Q) := w_ild (show decode kb5 26 = .ok (.iaload, 1) from by decide +kernel) rfl put_a8
theorem m5_27 : M5 27 ls (.int z :: st) H Q = Q (some (.int z)) H := w_iret (show decode kb5 27 = .ok (.ireturn, 1) from by decide +kernel) rfl
theorem m6_0 : M6 0 [l0, .val (.int v)] st H Q = M6 1 [l0, .val (.int v)] (.int v :: st) H Q := w_x (show decode kb6 0 = .ok (.iload_n 1, 1) from by decide +kernel) rfl
theorem m6_1 : M6 1 ls (.int x :: st) H Q = if x < 0 then M6 15 ls st H Q else M6 4 ls st H Q := w_if (show decode kb6 1 = .ok (.ifCond .lt 14, 3) from by decide +kernel) (z_lt x) rfl
theorem m6_4 : M6 4 [l0, .val (.int v)] st H Q = M6 5 [l0, .val (.int v)] (.int v :: st) H Q := w_x (show decode kb6 4 = .ok (.iload_n 1, 1) from by decide +kernel) rfl
theorem m6_5 : M6 5 ls st H Q = M6 8 ls (.int 256 :: st) H Q := w_con (show decode kb6 5 = .ok (.sipush 256, 3) from by decide +kernel) rfl (by decide)
theorem m6_8 : M6 8 ls (.int y :: .int x :: st) H Q = if x < y then M6 11 ls st H Q else M6 15 ls st H Q := w_icmpN (show decode kb6 8 = .ok (.if_icmp .ge 7, 3) from by decide +kernel) (i_ge x y) rfl
theorem m6_11 : M6 11 ls st H Q = M6 12 ls (.int 1 :: st) H Q := w_con (show decode kb6 11 = .ok (.iconst 1, 1) from by decide +kernel) rfl (by decide)
theorem m6_12 : M6 12 ls st H Q = M6 16 ls st H Q := w_x (show decode kb6 12 = .ok (.goto 4, 3) from by decide +kernel) rfl
theorem m6_15 : M6 15 ls st H Q = M6 16 ls (.int 0 :: st) H Q := w_con (show decode kb6 15 = .ok (.iconst 0, 1) from by decide +kernel) rfl (by decide)
theorem m6_16 : M6 16 ls (.int z :: st) H Q = Q (some (.int (nar .boolean z))) H := w_iretN (show decode kb6 16 = .ok (.ireturn, 1) from by decide +kernel) rfl (by simp)
theorem m7_0 : M7 0 [l0, .val (.int v)] st H Q = M7 1 [l0, .val (.int v)] (.int v :: st) H Q := w_x (show decode kb7 0 = .ok (.iload_n 1, 1) from by decide +kernel) rfl
theorem m7_1 : M7 1 ls (.int x :: st) H Q = if x = 0 then M7 8 ls st H Q else M7 4 ls st H Q := w_if (show decode kb7 1 = .ok (.ifCond .eq 7, 3) from by decide +kernel) (z_eq x) rfl
theorem m7_4 : M7 4 ls st H Q = M7 5 ls (.int 1 :: st) H Q := w_con (show decode kb7 4 = .ok (.iconst 1, 1) from by decide +kernel) rfl (by decide)
theorem m7_5 : M7 5 ls st H Q = M7 9 ls st H Q := w_x (show decode kb7 5 = .ok (.goto 4, 3) from by decide +kernel) rfl
theorem m7_8 : M7 8 ls st H Q = M7 9 ls (.int 0 :: st) H Q := w_con (show decode kb7 8 = .ok (.iconst 0, 1) from by decide +kernel) rfl (by decide)
theorem m7_9 : M7 9 ls (.int z :: st) H Q = Q (some (.int z)) H := w_iret (show decode kb7 9 = .ok (.ireturn, 1) from by decide +kernel) rfl
theorem m8_0 : M8 0 ls st H Q = M8 3 ls (.ref H.length :: st) (H ++ [(.object "StreamSigScanner", D0)]) Q := (w_new (C := "StreamSigScanner") at_0 (by rw [hNew, show rCls tables_1 y8.cls 7 = some "StreamSigScanner" from by decide +kernel]; dsimp only; rw [if_pos (by decide +kernel)])).trans (by rw [lay0]; rfl)
theorem m8_3 : M8 3 ls ((.ref r) :: st) H Q = M8 4 ls ((.ref r) :: (.ref r) :: st) H Q := w_x at_3 rfl
theorem m8_4 : M8 4 [.val (.int v), l1, l2, l3] st H Q = M8 5 [.val (.int v), l1, l2, l3] (.int v :: st) H Q := w_x at_4 rfl
theorem cr8_9 : nR tables_1 dn y8 9 = some (y0, prog_1_method_1_code, 3, none, 1, 1) := nR_of (cR_of (by decide +kernel) rc_0 dn_0 dn_8 (sig := ⟨[.int], none⟩) (by decide +kernel) (by decide +kernel) rfl rfl) rfl (by decide +kernel) rfl
theorem cr8_9_o : oR tables_1 dn y8 9 = none := by decide +kernel
theorem m8_5 (a0 : Int32) (u0 : Nat) : M8 5 ls [.int a0, .ref r, .ref u0] H Q = M0 0 [.val (.ref r), .val (.int a0), .unset] [] H (fun v H1 => M8 8 ls (v.toList ++ [.ref u0]) H1 Q) := w_spec (as := [.int a0]) (rest := [.ref u0]) (a := r) at_5 cr8_9_o cr8_9 rfl (Nat.le_of_ble_eq_true rfl) (by show 2 ≤ 3; omega) rfl
theorem m8_8u : M8 8 [l0, l1, .unset, l3] ((.ref r) :: st) H Q = M8 9 [l0, l1, .val (.ref r), l3] st H Q := w_st (i := 2) (p := Value.isRef) at_8 rfl rfl rfl rfl rfl rfl
theorem m8_9 : M8 9 [.val (.int v), l1, l2, l3] st H Q = M8 10 [.val (.int v), l1, l2, l3] (.int v :: st) H Q := w_x at_9 rfl
theorem m8_10 : M8 10 ls st H Q = M8 12 ls (.int 8 :: st) H Q := w_con at_10 rfl (by decide)
theorem m8_12 : M8 12 ls (.int y :: .int x :: st) H Q = if x < y then M8 15 ls st H Q else M8 20 ls st H Q := w_icmpN at_12 (i_ge x y) rfl
theorem m8_15 : M8 15 ls st H Q = M8 17 ls (.int 8 :: st) H Q := w_con at_15 rfl (by decide)
theorem m8_17 : M8 17 ls st H Q = M8 32 ls st H Q := w_x at_17 rfl
theorem m8_20 : M8 20 [.val (.int v), l1, l2, l3] st H Q = M8 21 [.val (.int v), l1, l2, l3] (.int v :: st) H Q := w_x at_20 rfl
theorem m8_21 : M8 21 ls st H Q = M8 23 ls (.int 64 :: st) H Q := w_con at_21 rfl (by decide)
theorem m8_23 : M8 23 ls (.int y :: .int x :: st) H Q = if y < x then M8 26 ls st H Q else M8 31 ls st H Q := w_icmpN at_23 (i_le x y) rfl
theorem m8_26 : M8 26 ls st H Q = M8 28 ls (.int 64 :: st) H Q := w_con at_26 rfl (by decide)
theorem m8_28 : M8 28 ls st H Q = M8 32 ls st H Q := w_x at_28 rfl
theorem m8_31 : M8 31 [.val (.int v), l1, l2, l3] st H Q = M8 32 [.val (.int v), l1, l2, l3] (.int v :: st) H Q := w_x at_31 rfl
theorem m8_32u : M8 32 [l0, l1, l2, .unset] ((.int v) :: st) H Q = M8 33 [l0, l1, l2, .val (.int v)] st H Q := w_st (i := 3) (p := isI) at_32 rfl rfl rfl rfl rfl rfl
theorem m8_33 : M8 33 [l0, l1, .val (.ref r), l3] st H Q = M8 34 [l0, l1, .val (.ref r), l3] (.ref r :: st) H Q := w_x at_33 rfl
theorem m8_34 : M8 34 ls st H Q = M8 36 ls (.int 14 :: st) H Q := w_con at_34 rfl (by decide)
theorem cr8_12 : vR tables_1 dn y8 12 = some (false, y1, prog_1_method_16_code, 2, (some .int), 1, 1) := vR_of (cR_of (by decide +kernel) rc_1 dn_1 dn_8 (sig := ⟨[.int], some .int⟩) (by decide +kernel) (by decide +kernel) rfl rfl) (by decide +kernel) (by decide +kernel) (by decide +kernel)
theorem m8_36 (a0 : Int32) : M8 36 ls [.int a0, .ref b] (put b pre s A post) Q = M1 0 [.val (.ref b), .val (.int a0)] [] (put b pre s A post) (fun v H1 => M8 39 ls (v.toList ++ []) H1 Q) := w_virt (as := [.int a0]) (rest := []) (a := b) at_36 cr8_12 put_o rfl rfl (Nat.le_of_ble_eq_true rfl) (by show 2 ≤ 2; omega) rfl
theorem m8_39 : M8 39 [l0, l1, l2, .val (.int v)] st H Q = M8 40 [l0, l1, l2, .val (.int v)] (.int v :: st) H Q := w_x at_39 rfl
theorem m8_40 : M8 40 ls (.int y :: .int x :: st) H Q = if x = y then M8 45 ls st H Q else M8 43 ls st H Q := w_icmp at_40 (i_eq x y) rfl
theorem m8_43 : M8 43 ls st H Q = M8 44 ls (.int 0 :: st) H Q := w_con at_43 rfl (by decide)
theorem m8_44 : M8 44 ls (.int z :: st) H Q = Q (some (.int (nar .boolean z))) H := w_iretN at_44 rfl (by simp)
theorem m8_45 : M8 45 [l0, l1, .val (.ref r), l3] st H Q = M8 46 [l0, l1, .val (.ref r), l3] (.ref r :: st) H Q := w_x at_45 rfl
theorem cr8_16 : vR tables_1 dn y8 16 = some (false, y2, prog_1_method_4_code, 1, (some .int), 0, 15) := vR_of (cR_of (by decide +kernel) rc_2 dn_2 dn_8 (sig := ⟨[], some .int⟩) (by decide +kernel) (by decide +kernel) rfl rfl) (by decide +kernel) (by decide +kernel) (by decide +kernel)
theorem m8_46 : M8 46 ls [.ref b] (put b pre s A post) Q = M2 0 [.val (.ref b)] [] (put b pre s A post) (fun v H1 => M8 49 ls (v.toList ++ []) H1 Q) := w_virt (as := []) (rest := []) (a := b) at_46 cr8_16 put_o rfl rfl (Nat.le_of_ble_eq_true rfl) (by show 1 ≤ 1; omega) rfl
theorem m8_49 : M8 49 ls st H Q = M8 51 ls (.int (-4) :: st) H Q := w_con at_49 rfl (by decide)
theorem m8_51 : M8 51 ls (.int y :: .int x :: st) H Q = if x = y then M8 56 ls st H Q else M8 54 ls st H Q := w_icmp at_51 (i_eq x y) rfl
theorem m8_54 : M8 54 ls st H Q = M8 55 ls (.int 0 :: st) H Q := w_con at_54 rfl (by decide)
theorem m8_55 : M8 55 ls (.int z :: st) H Q = Q (some (.int (nar .boolean z))) H := w_iretN at_55 rfl (by simp)
theorem m8_56 : M8 56 [l0, l1, .val (.ref r), l3] st H Q = M8 57 [l0, l1, .val (.ref r), l3] (.ref r :: st) H Q := w_x at_56 rfl
theorem cr8_20 : vR tables_1 dn y8 20 = some (false, y3, prog_1_method_3_code, 2, (some .int), 0, 14) := vR_of (cR_of (by decide +kernel) rc_3 dn_3 dn_8 (sig := ⟨[], some .int⟩) (by decide +kernel) (by decide +kernel) rfl rfl) (by decide +kernel) (by decide +kernel) (by decide +kernel)
theorem m8_57 : M8 57 ls [.ref b] (put b pre s A post) Q = M3 0 [.val (.ref b), .unset] [] (put b pre s A post) (fun v H1 => M8 60 ls (v.toList ++ []) H1 Q) := w_virt (as := []) (rest := []) (a := b) at_57 cr8_20 put_o rfl rfl (Nat.le_of_ble_eq_true rfl) (by show 1 ≤ 2; omega) rfl
theorem m8_60 : M8 60 ls st H Q = M8 62 ls (.int (-4) :: st) H Q := w_con at_60 rfl (by decide)
theorem m8_62 : M8 62 ls (.int y :: .int x :: st) H Q = if x = y then M8 67 ls st H Q else M8 65 ls st H Q := w_icmp at_62 (i_eq x y) rfl
theorem m8_65 : M8 65 ls st H Q = M8 66 ls (.int 0 :: st) H Q := w_con at_65 rfl (by decide)
theorem m8_66 : M8 66 ls (.int z :: st) H Q = Q (some (.int (nar .boolean z))) H := w_iretN at_66 rfl (by simp)
theorem m8_67 : M8 67 [l0, l1, .val (.ref r), l3] st H Q = M8 68 [l0, l1, .val (.ref r), l3] (.ref r :: st) H Q := w_x at_67 rfl
theorem m8_68 : M8 68 [l0, .val (.int v), l2, l3] st H Q = M8 69 [l0, .val (.int v), l2, l3] (.int v :: st) H Q := w_x at_68 rfl
theorem cr8_23 : vR tables_1 dn y8 23 = some (false, y4, prog_1_method_9_code, 2, (some .int), 1, 1) := vR_of (cR_of (by decide +kernel) rc_4 dn_4 dn_8 (sig := ⟨[.int], some .int⟩) (by decide +kernel) (by decide +kernel) rfl rfl) (by decide +kernel) (by decide +kernel) (by decide +kernel)
theorem m8_69 (a0 : Int32) : M8 69 ls [.int a0, .ref b] (put b pre s A post) Q = M4 0 [.val (.ref b), .val (.int a0)] [] (put b pre s A post) (fun v H1 => M8 72 ls (v.toList ++ []) H1 Q) := w_virt (as := [.int a0]) (rest := []) (a := b) at_69 cr8_23 put_o rfl rfl (Nat.le_of_ble_eq_true rfl) (by show 2 ≤ 2; omega) rfl
theorem m8_72 : M8 72 ls st H Q = M8 73 ls (.int (-1) :: st) H Q := w_con at_72 rfl (by decide)
theorem m8_73 : M8 73 ls (.int y :: .int x :: st) H Q = if x = y then M8 78 ls st H Q else M8 76 ls st H Q := w_icmp at_73 (i_eq x y) rfl
theorem m8_76 : M8 76 ls st H Q = M8 77 ls (.int 0 :: st) H Q := w_con at_76 rfl (by decide)
theorem m8_77 : M8 77 ls (.int z :: st) H Q = Q (some (.int (nar .boolean z))) H := w_iretN at_77 rfl (by simp)
theorem m8_78 : M8 78 [l0, l1, .val (.ref r), l3] st H Q = M8 79 [l0, l1, .val (.ref r), l3] (.ref r :: st) H Q := w_x at_78 rfl
theorem m8_79 : M8 79 [l0, .val (.int v), l2, l3] st H Q = M8 80 [l0, .val (.int v), l2, l3] (.int v :: st) H Q := w_x at_79 rfl
theorem cr8_26 : vR tables_1 dn y8 26 = some (false, y5, prog_1_method_17_code, 2, (some .int), 1, 1) := vR_of (cR_of (by decide +kernel) rc_5 dn_5 dn_8 (sig := ⟨[.int], some .int⟩) (by decide +kernel) (by decide +kernel) rfl rfl) (by decide +kernel) (by decide +kernel) (by decide +kernel)
theorem m8_80 (a0 : Int32) : M8 80 ls [.int a0, .ref b] (put b pre s A post) Q = M5 0 [.val (.ref b), .val (.int a0)] [] (put b pre s A post) (fun v H1 => M8 83 ls (v.toList ++ []) H1 Q) := w_virt (as := [.int a0]) (rest := []) (a := b) at_80 cr8_26 put_o rfl rfl (Nat.le_of_ble_eq_true rfl) (by show 2 ≤ 2; omega) rfl
theorem m8_83 : M8 83 ls st H Q = M8 84 ls (.int (-1) :: st) H Q := w_con at_83 rfl (by decide)
theorem m8_84 : M8 84 ls (.int y :: .int x :: st) H Q = if x = y then M8 89 ls st H Q else M8 87 ls st H Q := w_icmp at_84 (i_eq x y) rfl
theorem m8_87 : M8 87 ls st H Q = M8 88 ls (.int 0 :: st) H Q := w_con at_87 rfl (by decide)
theorem m8_88 : M8 88 ls (.int z :: st) H Q = Q (some (.int (nar .boolean z))) H := w_iretN at_88 rfl (by simp)
theorem m8_89 : M8 89 [l0, l1, .val (.ref r), l3] st H Q = M8 90 [l0, l1, .val (.ref r), l3] (.ref r :: st) H Q := w_x at_89 rfl
theorem m8_90 : M8 90 ls st H Q = M8 92 ls (.int 9 :: st) H Q := w_con at_90 rfl (by decide)
theorem m8_92 (a0 : Int32) : M8 92 ls [.int a0, .ref b] (put b pre s A post) Q = M1 0 [.val (.ref b), .val (.int a0)] [] (put b pre s A post) (fun v H1 => M8 95 ls (v.toList ++ []) H1 Q) := w_virt (as := [.int a0]) (rest := []) (a := b) at_92 cr8_12 put_o rfl rfl (Nat.le_of_ble_eq_true rfl) (by show 2 ≤ 2; omega) rfl
theorem m8_95 : M8 95 ls (.int x :: st) H Q = if x = 0 then M8 100 ls st H Q else M8 98 ls st H Q := w_if at_95 (z_eq x) rfl
theorem m8_98 : M8 98 ls st H Q = M8 99 ls (.int 0 :: st) H Q := w_con at_98 rfl (by decide)
theorem m8_99 : M8 99 ls (.int z :: st) H Q = Q (some (.int (nar .boolean z))) H := w_iretN at_99 rfl (by simp)
theorem m8_100 : M8 100 ls st H Q = M8 101 ls (.int 1 :: st) H Q := w_con at_100 rfl (by decide)
theorem m8_101 : M8 101 ls (.int z :: st) H Q = Q (some (.int (nar .boolean z))) H := w_iretN at_101 rfl (by simp)
theorem pf0_7 : pfR tables_1 y0.cls y0.name 7 = some ("StreamSigScanner", 0, .array .int) := by decide +kernel
theorem m0_4a (hH : H.length = b) {vs : List Value} {r : AHeap} (hj : 0 < vs.length) : M0 4 (.val (.ref b) :: [l1, l2]) [] (H ++ (.object "StreamSigScanner", vs) :: r) Q = M0 12 (.val (.ref b) :: [l1, l2]) [] (H ++ (.object "StreamSigScanner", vs.set 0 (.ref (b + (r.length + 1)))) :: (r ++ [(.array .int, List.replicate 64 (.int 0))])) Q := w_iarr (n := 64) rfl hH (Nat.zero_le _) (show decode kb0 4 = .ok (.aload_n 0, 1) from by decide +kernel) rfl (show decode kb0 5 = .ok (.bipush 64, 2) from by decide +kernel) (fun _ => rfl) (by decide) (show decode kb0 7 = .ok (.newarray .int, 2) from by decide +kernel) rfl (by decide +kernel) (by decide) (by decide) rfl (show decode kb0 9 = .ok (.putfield 7, 3) from by decide +kernel) pf0_7 hj
theorem pf0_13 : pfR tables_1 y0.cls y0.name 13 = some ("StreamSigScanner", 1, .array .int) := by decide +kernel
theorem m0_12a (hH : H.length = b) {vs : List Value} {r : AHeap} (hj : 1 < vs.length) : M0 12 (.val (.ref b) :: [l1, l2]) [] (H ++ (.object "StreamSigScanner", vs) :: r) Q = M0 20 (.val (.ref b) :: [l1, l2]) [] (H ++ (.object "StreamSigScanner", vs.set 1 (.ref (b + (r.length + 1)))) :: (r ++ [(.array .int, List.replicate 16 (.int 0))])) Q := w_iarr (n := 16) rfl hH (Nat.zero_le _) (show decode kb0 12 = .ok (.aload_n 0, 1) from by decide +kernel) rfl (show decode kb0 13 = .ok (.bipush 16, 2) from by decide +kernel) (fun _ => rfl) (by decide) (show decode kb0 15 = .ok (.newarray .int, 2) from by decide +kernel) rfl (by decide +kernel) (by decide) (by decide) rfl (show decode kb0 17 = .ok (.putfield 13, 3) from by decide +kernel) pf0_13 hj
theorem pf0_16 : pfR tables_1 y0.cls y0.name 16 = some ("StreamSigScanner", 2, .array .int) := by decide +kernel
theorem m0_20a (hH : H.length = b) {vs : List Value} {r : AHeap} (hj : 2 < vs.length) : M0 20 (.val (.ref b) :: [l1, l2]) [] (H ++ (.object "StreamSigScanner", vs) :: r) Q = M0 28 (.val (.ref b) :: [l1, l2]) [] (H ++ (.object "StreamSigScanner", vs.set 2 (.ref (b + (r.length + 1)))) :: (r ++ [(.array .int, List.replicate 16 (.int 0))])) Q := w_iarr (n := 16) rfl hH (Nat.zero_le _) (show decode kb0 20 = .ok (.aload_n 0, 1) from by decide +kernel) rfl (show decode kb0 21 = .ok (.bipush 16, 2) from by decide +kernel) (fun _ => rfl) (by decide) (show decode kb0 23 = .ok (.newarray .int, 2) from by decide +kernel) rfl (by decide +kernel) (by decide) (by decide) rfl (show decode kb0 25 = .ok (.putfield 16, 3) from by decide +kernel) pf0_16 hj
theorem pf0_19 : pfR tables_1 y0.cls y0.name 19 = some ("StreamSigScanner", 3, .array .int) := by decide +kernel
theorem m0_28a (hH : H.length = b) {vs : List Value} {r : AHeap} (hj : 3 < vs.length) : M0 28 (.val (.ref b) :: [l1, l2]) [] (H ++ (.object "StreamSigScanner", vs) :: r) Q = M0 37 (.val (.ref b) :: [l1, l2]) [] (H ++ (.object "StreamSigScanner", vs.set 3 (.ref (b + (r.length + 1)))) :: (r ++ [(.array .int, List.replicate 16640 (.int 0))])) Q := w_iarr (n := 16640) rfl hH (Nat.zero_le _) (show decode kb0 28 = .ok (.aload_n 0, 1) from by decide +kernel) rfl (show decode kb0 29 = .ok (.sipush 16640, 3) from by decide +kernel) (fun _ => rfl) (by decide) (show decode kb0 32 = .ok (.newarray .int, 2) from by decide +kernel) rfl (by decide +kernel) (by decide) (by decide) rfl (show decode kb0 34 = .ok (.putfield 19, 3) from by decide +kernel) pf0_19 hj
theorem pf0_22 : pfR tables_1 y0.cls y0.name 22 = some ("StreamSigScanner", 4, .array .int) := by decide +kernel
theorem m0_37a (hH : H.length = b) {vs : List Value} {r : AHeap} (hj : 4 < vs.length) : M0 37 (.val (.ref b) :: [l1, l2]) [] (H ++ (.object "StreamSigScanner", vs) :: r) Q = M0 45 (.val (.ref b) :: [l1, l2]) [] (H ++ (.object "StreamSigScanner", vs.set 4 (.ref (b + (r.length + 1)))) :: (r ++ [(.array .int, List.replicate 65 (.int 0))])) Q := w_iarr (n := 65) rfl hH (Nat.zero_le _) (show decode kb0 37 = .ok (.aload_n 0, 1) from by decide +kernel) rfl (show decode kb0 38 = .ok (.bipush 65, 2) from by decide +kernel) (fun _ => rfl) (by decide) (show decode kb0 40 = .ok (.newarray .int, 2) from by decide +kernel) rfl (by decide +kernel) (by decide) (by decide) rfl (show decode kb0 42 = .ok (.putfield 22, 3) from by decide +kernel) pf0_22 hj
theorem pf0_25 : pfR tables_1 y0.cls y0.name 25 = some ("StreamSigScanner", 5, .array .int) := by decide +kernel
theorem m0_45a (hH : H.length = b) {vs : List Value} {r : AHeap} (hj : 5 < vs.length) : M0 45 (.val (.ref b) :: [l1, l2]) [] (H ++ (.object "StreamSigScanner", vs) :: r) Q = M0 53 (.val (.ref b) :: [l1, l2]) [] (H ++ (.object "StreamSigScanner", vs.set 5 (.ref (b + (r.length + 1)))) :: (r ++ [(.array .int, List.replicate 65 (.int 0))])) Q := w_iarr (n := 65) rfl hH (Nat.zero_le _) (show decode kb0 45 = .ok (.aload_n 0, 1) from by decide +kernel) rfl (show decode kb0 46 = .ok (.bipush 65, 2) from by decide +kernel) (fun _ => rfl) (by decide) (show decode kb0 48 = .ok (.newarray .int, 2) from by decide +kernel) rfl (by decide +kernel) (by decide) (by decide) rfl (show decode kb0 50 = .ok (.putfield 25, 3) from by decide +kernel) pf0_25 hj
theorem pf0_28 : pfR tables_1 y0.cls y0.name 28 = some ("StreamSigScanner", 6, .array .int) := by decide +kernel
theorem m0_53a (hH : H.length = b) {vs : List Value} {r : AHeap} (hj : 6 < vs.length) : M0 53 (.val (.ref b) :: [l1, l2]) [] (H ++ (.object "StreamSigScanner", vs) :: r) Q = M0 61 (.val (.ref b) :: [l1, l2]) [] (H ++ (.object "StreamSigScanner", vs.set 6 (.ref (b + (r.length + 1)))) :: (r ++ [(.array .int, List.replicate 65 (.int 0))])) Q := w_iarr (n := 65) rfl hH (Nat.zero_le _) (show decode kb0 53 = .ok (.aload_n 0, 1) from by decide +kernel) rfl (show decode kb0 54 = .ok (.bipush 65, 2) from by decide +kernel) (fun _ => rfl) (by decide) (show decode kb0 56 = .ok (.newarray .int, 2) from by decide +kernel) rfl (by decide +kernel) (by decide) (by decide) rfl (show decode kb0 58 = .ok (.putfield 28, 3) from by decide +kernel) pf0_28 hj
theorem pf0_31 : pfR tables_1 y0.cls y0.name 31 = some ("StreamSigScanner", 7, .array .boolean) := by decide +kernel
theorem m0_61a (hH : H.length = b) {vs : List Value} {r : AHeap} (hj : 7 < vs.length) : M0 61 (.val (.ref b) :: [l1, l2]) [] (H ++ (.object "StreamSigScanner", vs) :: r) Q = M0 70 (.val (.ref b) :: [l1, l2]) [] (H ++ (.object "StreamSigScanner", vs.set 7 (.ref (b + (r.length + 1)))) :: (r ++ [(.array .boolean, List.replicate 256 (.int 0))])) Q := w_iarr (n := 256) rfl hH (Nat.zero_le _) (show decode kb0 61 = .ok (.aload_n 0, 1) from by decide +kernel) rfl (show decode kb0 62 = .ok (.sipush 256, 3) from by decide +kernel) (fun _ => rfl) (by decide) (show decode kb0 65 = .ok (.newarray .boolean, 2) from by decide +kernel) rfl (by decide +kernel) (by decide) (by decide) rfl (show decode kb0 67 = .ok (.putfield 31, 3) from by decide +kernel) pf0_31 hj
theorem pf0_35 : pfR tables_1 y0.cls y0.name 35 = some ("StreamSigScanner", 8, .array .int) := by decide +kernel
theorem m0_70a (hH : H.length = b) {vs : List Value} {r : AHeap} (hj : 8 < vs.length) : M0 70 (.val (.ref b) :: [l1, l2]) [] (H ++ (.object "StreamSigScanner", vs) :: r) Q = M0 79 (.val (.ref b) :: [l1, l2]) [] (H ++ (.object "StreamSigScanner", vs.set 8 (.ref (b + (r.length + 1)))) :: (r ++ [(.array .int, List.replicate 256 (.int 0))])) Q := w_iarr (n := 256) rfl hH (Nat.zero_le _) (show decode kb0 70 = .ok (.aload_n 0, 1) from by decide +kernel) rfl (show decode kb0 71 = .ok (.sipush 256, 3) from by decide +kernel) (fun _ => rfl) (by decide) (show decode kb0 74 = .ok (.newarray .int, 2) from by decide +kernel) rfl (by decide +kernel) (by decide) (by decide) rfl (show decode kb0 76 = .ok (.putfield 35, 3) from by decide +kernel) pf0_35 hj
theorem pf0_38 : pfR tables_1 y0.cls y0.name 38 = some ("StreamSigScanner", 9, .array .int) := by decide +kernel
theorem m0_79a (hH : H.length = b) {vs : List Value} {r : AHeap} (hj : 9 < vs.length) : M0 79 (.val (.ref b) :: [l1, l2]) [] (H ++ (.object "StreamSigScanner", vs) :: r) Q = M0 87 (.val (.ref b) :: [l1, l2]) [] (H ++ (.object "StreamSigScanner", vs.set 9 (.ref (b + (r.length + 1)))) :: (r ++ [(.array .int, List.replicate 16 (.int 0))])) Q := w_iarr (n := 16) rfl hH (Nat.zero_le _) (show decode kb0 79 = .ok (.aload_n 0, 1) from by decide +kernel) rfl (show decode kb0 80 = .ok (.bipush 16, 2) from by decide +kernel) (fun _ => rfl) (by decide) (show decode kb0 82 = .ok (.newarray .int, 2) from by decide +kernel) rfl (by decide +kernel) (by decide) (by decide) rfl (show decode kb0 84 = .ok (.putfield 38, 3) from by decide +kernel) pf0_38 hj
theorem pf0_41 : pfR tables_1 y0.cls y0.name 41 = some ("StreamSigScanner", 10, .array .int) := by decide +kernel
theorem m0_87a (hH : H.length = b) {vs : List Value} {r : AHeap} (hj : 10 < vs.length) : M0 87 (.val (.ref b) :: [l1, l2]) [] (H ++ (.object "StreamSigScanner", vs) :: r) Q = M0 95 (.val (.ref b) :: [l1, l2]) [] (H ++ (.object "StreamSigScanner", vs.set 10 (.ref (b + (r.length + 1)))) :: (r ++ [(.array .int, List.replicate 64 (.int 0))])) Q := w_iarr (n := 64) rfl hH (Nat.zero_le _) (show decode kb0 87 = .ok (.aload_n 0, 1) from by decide +kernel) rfl (show decode kb0 88 = .ok (.bipush 64, 2) from by decide +kernel) (fun _ => rfl) (by decide) (show decode kb0 90 = .ok (.newarray .int, 2) from by decide +kernel) rfl (by decide +kernel) (by decide) (by decide) rfl (show decode kb0 92 = .ok (.putfield 41, 3) from by decide +kernel) pf0_41 hj
theorem pf0_44 : pfR tables_1 y0.cls y0.name 44 = some ("StreamSigScanner", 11, .array .int) := by decide +kernel
theorem m0_95a (hH : H.length = b) {vs : List Value} {r : AHeap} (hj : 11 < vs.length) : M0 95 (.val (.ref b) :: [l1, l2]) [] (H ++ (.object "StreamSigScanner", vs) :: r) Q = M0 103 (.val (.ref b) :: [l1, l2]) [] (H ++ (.object "StreamSigScanner", vs.set 11 (.ref (b + (r.length + 1)))) :: (r ++ [(.array .int, List.replicate 64 (.int 0))])) Q := w_iarr (n := 64) rfl hH (Nat.zero_le _) (show decode kb0 95 = .ok (.aload_n 0, 1) from by decide +kernel) rfl (show decode kb0 96 = .ok (.bipush 64, 2) from by decide +kernel) (fun _ => rfl) (by decide) (show decode kb0 98 = .ok (.newarray .int, 2) from by decide +kernel) rfl (by decide +kernel) (by decide) (by decide) rfl (show decode kb0 100 = .ok (.putfield 44, 3) from by decide +kernel) pf0_44 hj
def A0 : Nat → List Int32
  | 0 => List.replicate 64 0
  | 1 => List.replicate 16 0
  | 2 => List.replicate 16 0
  | 3 => List.replicate 16640 0
  | 4 => List.replicate 65 0
  | 5 => List.replicate 65 0
  | 6 => List.replicate 65 0
  | 7 => List.replicate 256 0
  | 8 => List.replicate 256 0
  | 9 => List.replicate 16 0
  | 10 => List.replicate 64 0
  | 11 => List.replicate 64 0
  | _ => []
theorem A0l_0 : (A0 0).length = 64 := List.length_replicate
theorem A0l_1 : (A0 1).length = 16 := List.length_replicate
theorem A0l_2 : (A0 2).length = 16 := List.length_replicate
theorem A0l_3 : (A0 3).length = 16640 := List.length_replicate
theorem A0l_4 : (A0 4).length = 65 := List.length_replicate
theorem A0l_5 : (A0 5).length = 65 := List.length_replicate
theorem A0l_6 : (A0 6).length = 65 := List.length_replicate
theorem A0l_7 : (A0 7).length = 256 := List.length_replicate
theorem A0l_8 : (A0 8).length = 256 := List.length_replicate
theorem A0l_9 : (A0 9).length = 16 := List.length_replicate
theorem A0l_10 : (A0 10).length = 64 := List.length_replicate
theorem A0l_11 : (A0 11).length = 64 := List.length_replicate
theorem own_ctor0 (hb : pre.length = b) : M0 0 (.val (.ref b) :: [l1, l2]) [] (pre ++ [(.object "StreamSigScanner", D0)]) Q = M0 103 (.val (.ref b) :: [l1, l2]) [] (put b pre (fun _ => 0) A0 []) Q := by
  rw [m0_0, m0_1, m0_4a hb (by (repeat rw [List.length_set]); exact Nat.le_of_ble_eq_true rfl), m0_12a hb (by (repeat rw [List.length_set]); exact Nat.le_of_ble_eq_true rfl), m0_20a hb (by (repeat rw [List.length_set]); exact Nat.le_of_ble_eq_true rfl), m0_28a hb (by (repeat rw [List.length_set]); exact Nat.le_of_ble_eq_true rfl), m0_37a hb (by (repeat rw [List.length_set]); exact Nat.le_of_ble_eq_true rfl), m0_45a hb (by (repeat rw [List.length_set]); exact Nat.le_of_ble_eq_true rfl), m0_53a hb (by (repeat rw [List.length_set]); exact Nat.le_of_ble_eq_true rfl), m0_61a hb (by (repeat rw [List.length_set]); exact Nat.le_of_ble_eq_true rfl), m0_70a hb (by (repeat rw [List.length_set]); exact Nat.le_of_ble_eq_true rfl), m0_79a hb (by (repeat rw [List.length_set]); exact Nat.le_of_ble_eq_true rfl), m0_87a hb (by (repeat rw [List.length_set]); exact Nat.le_of_ble_eq_true rfl), m0_95a hb (by (repeat rw [List.length_set]); exact Nat.le_of_ble_eq_true rfl)]
  simp only [put, pad_eq hb, objv, D0, A0, List.map_replicate, List.set_cons_succ, List.set_cons_zero, List.nil_append, List.cons_append, List.length_cons, List.length_nil, List.append_nil]
end Rules
/- methods: 0=StreamSigScanner.<init>(I)V; 1=StreamSigScanner.stat(I)I; 2=StreamSigScanner.compile()I; 3=StreamSigScanner.endSig()I; 4=StreamSigScanner.openSegment(I)I; 5=StreamSigScanner.byteAt(I)I; 6=StreamSigScanner.isOffset(I)Z; 7=StreamSigScanner.flag(Z)I; 8=StreamSigScannerL1.law(II)Z -/
theorem own_p (j : Int32) : getA (A0 7) j = 0 := getA_rep _ _
theorem own_b {j : Int32} (h0 : ¬ j < 0) (h1 : j < 256) : inB j (A0 7) := inB_lt (n := 256) (by rw [A0l_7]; decide) h0 h1
theorem own_law (i0 : Int32) (i1 : Int32) : W tables_1 dn 0 x code ret 0 (entry [.int i0, .int i1] maxLocals) [] [] (fun v H1 => v = some (.int 1) ∧ H1.length - ([] : AHeap).length ≤ 40 ∧ tot tables_1 H1 - tot tables_1 [] ≤ 35328) := by
  show M8 0 [.val (.int i0), .val (.int i1), .unset, .unset] [] [] _
  rw [m8_0, m8_3, m8_4, m8_5, own_ctor0 rfl]
  by_cases h1 : i0 < 8
  · simp [h1, m8_0, m8_3, m8_4, m8_5, m8_8u, m8_9, m8_10, m8_12, m8_15, m8_17, m8_20, m8_21, m8_23, m8_26, m8_28, m8_31, m8_32u, m8_33, m8_34, m8_36, m8_39, m8_40, m8_43, m8_44, m8_45, m8_46, m8_49, m8_51, m8_54, m8_55, m8_56, m8_57, m8_60, m8_62, m8_65, m8_66, m8_67, m8_68, m8_69, m8_72, m8_73, m8_76, m8_77, m8_78, m8_79, m8_80, m8_83, m8_84, m8_87, m8_88, m8_89, m8_90, m8_92, m8_95, m8_98, m8_99, m8_100, m8_101, m0_0, m0_1, m0_4, m0_5, m0_12, m0_13, m0_20, m0_21, m0_28, m0_29, m0_37, m0_38, m0_45, m0_46, m0_53, m0_54, m0_61, m0_62, m0_70, m0_71, m0_79, m0_80, m0_87, m0_88, m0_95, m0_96, m0_103, m0_104u, m0_105, m0_106, m0_108, m0_111, m0_113i, m0_114, m0_115, m0_117, m0_120, m0_122i, m0_123, m0_124, m0_125, m0_128, m0_129, m0_130, m0_133, m0_134, m0_135, m0_138, m0_139, m0_140, m0_143, m0_144, m0_145, m0_148, m0_149, m0_150, m0_153, m0_154, m0_155, m0_158, m0_159, m0_160, m0_163, m0_164, m0_165, m0_168, m0_169, m0_170, m0_173, m0_174, m0_175, m0_178, m0_179, m0_180, m0_183, m0_184, m0_185, m0_188, m0_189, m0_190, m0_193, m0_194, m0_195, m0_198, m0_199, m0_200, m0_203, m0_204, m0_205, m0_208, m1_0, m1_1_0, m1_1_1, m1_1_2, m1_1_3, m1_1_4, m1_1_5, m1_1_6, m1_1_7, m1_1_8, m1_1_9, m1_1_10, m1_1_11, m1_1_12, m1_1_13, m1_1_14, m1_76, m1_77, m1_80, m1_81, m1_82, m1_85, m1_86, m1_87, m1_90, m1_91, m1_92, m1_95, m1_96, m1_97, m1_100, m1_101, m1_102, m1_105, m1_106, m1_107, m1_110, m1_111, m1_112, m1_115, m1_116, m1_117, m1_120, m1_121, m1_122, m1_123, m1_126, m1_129, m1_130, m1_131, m1_132, m1_135, m1_138, m1_139, m1_140, m1_143, m1_146, m1_147, m1_150, m1_153, m1_154, m1_155, m1_156, m1_159, m1_162, m1_163, m1_166, m1_169, m1_170, m1_171, m1_172, m1_175, m1_176, m1_177, m1_180, m1_181, m1_182, m2_0, m2_1, m2_4, m2_7, m2_8, m2_9, m2_10, m2_13, m2_16, m2_17, m2_18, m2_19, m2_22, m2_25, m2_27, m2_28, m3_0, m3_1, m3_4, m3_7, m3_8, m3_9, m3_10, m3_13, m3_16, m3_18, m3_19, m3_20, m3_23u, m3_24, m3_25, m3_28, m3_29, m3_31, m3_34, m3_36, m3_37, m3_38, m3_41, m3_42, m3_43, m3_46, m3_47, m3_48, m3_51, m3_52, m3_53, m3_56, m3_57, m3_58, m3_59, m3_62, m3_63, m3_66, m3_67, m3_70, m3_71, m3_72, m3_75, m3_76, m3_77, m3_78, m3_79, m3_82, m3_83, m4_0, m4_1, m4_4, m4_7, m4_8, m4_9, m4_10, m4_13, m4_16, m4_17, m4_18, m4_19, m4_20, m4_23, m4_26, m4_28, m4_29, m4_30, m4_31, m4_34, m4_35, m4_36, m4_39, m4_40, m4_41, m4_44, m4_45, m5_0, m5_1, m5_2, m5_5, m5_8, m5_9, m5_10, m5_11, m5_14, m5_15, m5_16, m5_19, m5_20, m5_21, m5_22, m5_25, m5_26, m5_27, m6_0, m6_1, m6_4, m6_5, m6_8, m6_11, m6_12, m6_15, m6_16, m7_0, m7_1, m7_4, m7_5, m7_8, m7_9, nb0, nb1, ou_a, Option.toList_some, Option.toList_none, List.nil_append, List.cons_append, own_p]
    by_cases h3 : i1 < 0 <;> by_cases h4 : i1 < 256 <;> simp only [h3, h4, own_b, put_len, put_tot, pad_0, tot_nil, List.length_nil, List.length_cons, A0l_0, A0l_1, A0l_2, A0l_3, A0l_4, A0l_5, A0l_6, A0l_7, A0l_8, A0l_9, A0l_10, A0l_11, if_true, if_false, true_and, not_false_eq_true, not_true_eq_false] <;> decide
  · by_cases h2 : 64 < i0 <;>
    · simp [h1, h2, m8_0, m8_3, m8_4, m8_5, m8_8u, m8_9, m8_10, m8_12, m8_15, m8_17, m8_20, m8_21, m8_23, m8_26, m8_28, m8_31, m8_32u, m8_33, m8_34, m8_36, m8_39, m8_40, m8_43, m8_44, m8_45, m8_46, m8_49, m8_51, m8_54, m8_55, m8_56, m8_57, m8_60, m8_62, m8_65, m8_66, m8_67, m8_68, m8_69, m8_72, m8_73, m8_76, m8_77, m8_78, m8_79, m8_80, m8_83, m8_84, m8_87, m8_88, m8_89, m8_90, m8_92, m8_95, m8_98, m8_99, m8_100, m8_101, m0_0, m0_1, m0_4, m0_5, m0_12, m0_13, m0_20, m0_21, m0_28, m0_29, m0_37, m0_38, m0_45, m0_46, m0_53, m0_54, m0_61, m0_62, m0_70, m0_71, m0_79, m0_80, m0_87, m0_88, m0_95, m0_96, m0_103, m0_104u, m0_105, m0_106, m0_108, m0_111, m0_113i, m0_114, m0_115, m0_117, m0_120, m0_122i, m0_123, m0_124, m0_125, m0_128, m0_129, m0_130, m0_133, m0_134, m0_135, m0_138, m0_139, m0_140, m0_143, m0_144, m0_145, m0_148, m0_149, m0_150, m0_153, m0_154, m0_155, m0_158, m0_159, m0_160, m0_163, m0_164, m0_165, m0_168, m0_169, m0_170, m0_173, m0_174, m0_175, m0_178, m0_179, m0_180, m0_183, m0_184, m0_185, m0_188, m0_189, m0_190, m0_193, m0_194, m0_195, m0_198, m0_199, m0_200, m0_203, m0_204, m0_205, m0_208, m1_0, m1_1_0, m1_1_1, m1_1_2, m1_1_3, m1_1_4, m1_1_5, m1_1_6, m1_1_7, m1_1_8, m1_1_9, m1_1_10, m1_1_11, m1_1_12, m1_1_13, m1_1_14, m1_76, m1_77, m1_80, m1_81, m1_82, m1_85, m1_86, m1_87, m1_90, m1_91, m1_92, m1_95, m1_96, m1_97, m1_100, m1_101, m1_102, m1_105, m1_106, m1_107, m1_110, m1_111, m1_112, m1_115, m1_116, m1_117, m1_120, m1_121, m1_122, m1_123, m1_126, m1_129, m1_130, m1_131, m1_132, m1_135, m1_138, m1_139, m1_140, m1_143, m1_146, m1_147, m1_150, m1_153, m1_154, m1_155, m1_156, m1_159, m1_162, m1_163, m1_166, m1_169, m1_170, m1_171, m1_172, m1_175, m1_176, m1_177, m1_180, m1_181, m1_182, m2_0, m2_1, m2_4, m2_7, m2_8, m2_9, m2_10, m2_13, m2_16, m2_17, m2_18, m2_19, m2_22, m2_25, m2_27, m2_28, m3_0, m3_1, m3_4, m3_7, m3_8, m3_9, m3_10, m3_13, m3_16, m3_18, m3_19, m3_20, m3_23u, m3_24, m3_25, m3_28, m3_29, m3_31, m3_34, m3_36, m3_37, m3_38, m3_41, m3_42, m3_43, m3_46, m3_47, m3_48, m3_51, m3_52, m3_53, m3_56, m3_57, m3_58, m3_59, m3_62, m3_63, m3_66, m3_67, m3_70, m3_71, m3_72, m3_75, m3_76, m3_77, m3_78, m3_79, m3_82, m3_83, m4_0, m4_1, m4_4, m4_7, m4_8, m4_9, m4_10, m4_13, m4_16, m4_17, m4_18, m4_19, m4_20, m4_23, m4_26, m4_28, m4_29, m4_30, m4_31, m4_34, m4_35, m4_36, m4_39, m4_40, m4_41, m4_44, m4_45, m5_0, m5_1, m5_2, m5_5, m5_8, m5_9, m5_10, m5_11, m5_14, m5_15, m5_16, m5_19, m5_20, m5_21, m5_22, m5_25, m5_26, m5_27, m6_0, m6_1, m6_4, m6_5, m6_8, m6_11, m6_12, m6_15, m6_16, m7_0, m7_1, m7_4, m7_5, m7_8, m7_9, nb0, nb1, ou_a, Option.toList_some, Option.toList_none, List.nil_append, List.cons_append, own_p]
      by_cases h3 : i1 < 0 <;> by_cases h4 : i1 < 256 <;> simp only [h3, h4, own_b, put_len, put_tot, pad_0, tot_nil, List.length_nil, List.length_cons, A0l_0, A0l_1, A0l_2, A0l_3, A0l_4, A0l_5, A0l_6, A0l_7, A0l_8, A0l_9, A0l_10, A0l_11, if_true, if_false, true_and, not_false_eq_true, not_true_eq_false] <;> decide
theorem own_dn : ∀ f' l', dnOf dn x = some (f', l') → f' ≤ room_1.frames ∧ l' ≤ room_1.locals := by
  have h : dnOf dn x = some (2, 27) := by decide +kernel
  intro f' l' q; rw [h] at q; cases q; decide
theorem own_pn : Jvm.plainName x.cls = true := by first | (simp [Jvm.plainName, overriddenIn, x]; done) | decide +kernel
theorem own_rm (l : Launch) (Z : State) (a0 : Array Value) (hw : ∀ d ∈ tables_1, d.before a0 Z = true) (i0 : Int32) (i1 : Int32) (h : Heap) :
    MetFree l x (head1 (Jvm.Cond.code x code maxLocals ret :: tables_1) room_1) (fun a U => a = #[.int i0, .int i1] ∧ Z.Warmed39 U.vm ∧ U.heap = h) (fun _ _ _ _ _ => True) (fun _ U o U' => ∃ w L, o = .returned w ∧ (w = some (.int 1) ∧ Fr h.size L) ∧ FrameEnd U o U' L 40 35328) :=
  law_of (as := [.int i0, .int i1]) (mx := maxLocals) (f := room_1.frames) (lc := room_1.locals) hw l tables_1 own_pn (by show 2 ≤ 4; omega) (own_law i0 i1) own_dn (Sim.empty Z tables_1 h)
set_option maxRecDepth 65536 in
set_option maxHeartbeats 40000000 in
theorem comes_1 {Post : Tables → Env → Array Value → State → Outcome → State → Prop} (hpost : ∀ tb e args s v u, (limb_1_1.after args s (.returned v) u = true ∧ limb_1_2.after args s (.returned v) u = true ∧ True) → FrameEnd s (.returned v) u (Jvm.fieldLocs frame_1_writes args s ++ Jvm.arrayLocs frame_1_arrays args s ++ Jvm.staticLocs frame_1_statics s) 40 35328 → Post tb e args s (.returned v) u) :
    ArmFor flags0 classFile x code maxLocals ret World_1 tables_1 room_1 Calls_1 rest_1 Pre_1 Post := by
  intro l hfl _ _ p e ha hc hk s m args below hf hA hF happ hP
  obtain ⟨hcalls, hrest, hpre⟩ := hP
  obtain ⟨-, -, -, hnamed, -, -, -, hat⟩ := (Spec.applies_iff hf).mp happ
  obtain ⟨hg, hn⟩ := and_e (Cond.before_iff.mp (show (Jvm.Cond.and given_1 narrow_1).before args s = true from hpre))
  obtain ⟨g0, t0⟩ := and_e hg
  obtain ⟨q0, t1⟩ := and_e t0
  have q1 := t1
  obtain ⟨w0, w1, rfl⟩ : ∃ w0 w1 : Value, args = #[w0, w1] := by
    have hs : args.size = 2 := by simpa [Cond.value, given_1] using g0
    obtain ⟨L⟩ := args
    match L, hs with
    | [w0, w1], _ => exact ⟨w0, w1, rfl⟩
  have hw := fun d (hd : d ∈ tables_1) => atoms_spec (ws := Jvm.Cond.code x code maxLocals ret :: tables_1) hat d (List.mem_cons_of_mem _ hd)
  obtain ⟨i0, ei0⟩ := is_v q0
  obtain rfl : w0 = (.int i0) := Option.some.inj ei0
  obtain ⟨i1, ei1⟩ := is_v q1
  obtain rfl : w1 = (.int i1) := Option.some.inj ei1
  obtain ⟨n, o, h1, h2, h3, _, L, rfl, ⟨rfl, N⟩, hq⟩ := own_rm l s _ hw i0 i1 s.heap p e ha hc hk s m _ below hf ((Spec.applies_iff_loose hf).mp happ).1 ⟨rfl, State.Warmed39.refl s, rfl⟩ trivial
  exact ⟨n, _, h1, h2, h3, hpost _ _ _ _ _ _ ⟨Cond.after_iff.mpr rfl, Cond.after_iff.mpr (eq_i res_at (Term.int_eval (1)) rfl), trivial⟩ ⟨hq.1, hq.2.1, (hq.2.2.sift fun y hy => Or.inr (N y hy)).mono (by decide) (by decide)⟩⟩
theorem main_1_1 : Claimed_1_1 := comes_1 fun _ _ _ _ _ _ h hF => ⟨h.1, hF⟩
theorem main_1_2 : Claimed_1_2 := comes_1 fun _ _ _ _ _ _ h hF => ⟨h.2.1, hF⟩
end Jvm.Pilot.@@N@@
namespace Jvm.Pilot.@@N@@
open Jvm Jvm.ClassFile Sem Op Lib Jvm.Free Jvm.Stand Jvm.Pilot.@@N@@.Jvm.D
/-! MADE BY PROGRAM (witnessworld.py) out of the Statement's table words and the real class files: 11 classes; the members and pool entries that the words name. The judged class is class 1, her method 1. -/
namespace start1
open Jvm.ClassFile
def u (s : String) : CpInfo := .utf8 (stringToUtf16 s)
/-- a pool by its gaps: so many unusable entries, then the entry; so many at the end -/
def gap : Nat → List CpInfo → List CpInfo
  | 0, r => r
  | n + 1, r => .unusable :: gap n r
def poolList (es : List (Nat × CpInfo)) (last : Nat) : List CpInfo := es.foldr (fun e r => gap e.1 (e.2 :: r)) (gap last [])
def pool (es : List (Nat × CpInfo)) (last : Nat) : Array CpInfo := ⟨poolList es last⟩
def fileOf (pool : Array CpInfo) (this : Nat) (attrs : Array Attribute := #[]) (ms : Array MethodInfo := #[]) (fl : Nat := 33) (sup : Nat := 0) (ifs : Array Nat := #[]) (fds : Array FieldInfo := #[]) : ClassFile where
  minorVersion := 0
  majorVersion := 65
  constantPool := pool
  accessFlags := fl
  thisClass := this
  superClass := sup
  interfaces := ifs
  fields := fds
  methods := ms
  attributes := attrs
def plain (name : String) (sup : Option ClassId) : Class where
  name := name
  kind := .ordinary
  loader := none
  accessFlags := 33
  super := sup
  interfaces := #[]
  cf := none
  fields := #[]
  methods := #[]
  instanceTypes := #[]
  staticTypes := #[]
  resolved := #[]
  callSites := []
  init := .initialized
  statics := none
  mirror := none

def pool0 : Array CpInfo := pool [(5, u "<init>"), (0, u "()V"), (1, .class_ 10), (1, u "java/lang/Object")] 113

def k0c0 : Code := { maxStack := 0, maxLocals := 1, code := object_method_1_code, exceptionTable := #[], attributes := #[] }
def k0m0 : Method := { name := "<init>", desc := "()V", sig := { parameters := [], returnType := none }, accessFlags := 1, code := some k0c0 }
/-- java/lang/Object -/
def k0 : Class := { plain "java/lang/Object" none with
  accessFlags := 33
  interfaces := #[]
  cf := some (fileOf pool0 8 #[] #[{ accessFlags := 1, nameIndex := 5, descriptorIndex := 6, attributes := #[] }] 33 0 #[] #[])
  fields := #[]
  methods := #[k0m0]
  instanceTypes := #[]
  staticTypes := #[]
  resolved := Array.replicate 124 none
  statics := none }

def pool1 : Array CpInfo := pool [(2, .class_ 4), (1, u "java/lang/Object"), (0, u "<init>"), (0, u "()V"), (0, .class_ 8), (0, u "StreamSigScanner"), (0, .methodref 7 10), (0, .nameAndType 5 11), (0, u "(I)V"), (0, .methodref 7 13), (0, .nameAndType 14 15), (0, u "stat"), (0, u "(I)I"), (0, .methodref 7 17), (0, .nameAndType 18 19), (0, u "compile"), (0, u "()I"), (0, .methodref 7 21), (0, .nameAndType 22 19), (0, u "endSig"), (0, .methodref 7 24), (0, .nameAndType 25 15), (0, u "openSegment"), (0, .methodref 7 27), (0, .nameAndType 28 15), (0, u "byteAt"), (0, .class_ 30), (0, u "StreamSigScannerL1"), (2, u "law"), (0, u "(II)Z")] 3

def k1m0 : Method := { name := "<init>", desc := "()V", sig := { parameters := [], returnType := none }, accessFlags := 1, code := none }
def k1c1 : Code := { maxStack := 3, maxLocals := 4, code := code, exceptionTable := #[], attributes := #[] }
def k1m1 : Method := { name := "law", desc := "(II)Z", sig := { parameters := [.int, .int], returnType := some .boolean }, accessFlags := 9, code := some k1c1 }
/-- StreamSigScannerL1 -/
def k1 : Class := { plain "StreamSigScannerL1" (some 0) with
  accessFlags := 49
  interfaces := #[]
  cf := some (fileOf pool1 29 #[] #[{ accessFlags := 1, nameIndex := 5, descriptorIndex := 6, attributes := #[] }, { accessFlags := 9, nameIndex := 33, descriptorIndex := 34, attributes := #[] }] 49 2 #[] #[])
  fields := #[]
  methods := #[k1m0, k1m1]
  instanceTypes := #[]
  staticTypes := #[]
  resolved := Array.replicate 38 none
  statics := none }

def pool2 : Array CpInfo := pool [(1, .methodref 2 3), (0, .class_ 4), (0, .nameAndType 5 6), (0, u "java/lang/Object"), (0, u "<init>"), (0, u "()V"), (0, .fieldref 8 9), (0, .class_ 10), (0, .nameAndType 11 12), (0, u "StreamSigScanner"), (0, u "sigBytes"), (0, u "[I"), (0, .fieldref 8 14), (0, .nameAndType 15 12), (0, u "sigStart"), (0, .fieldref 8 17), (0, .nameAndType 18 12), (0, u "sigLen"), (0, .fieldref 8 20), (0, .nameAndType 21 12), (0, u "delta"), (0, .fieldref 8 23), (0, .nameAndType 24 12), (0, u "fail"), (0, .fieldref 8 26), (0, .nameAndType 27 12), (0, u "outMask"), (0, .fieldref 8 29), (0, .nameAndType 30 12), (0, u "queue"), (0, .fieldref 8 32), (0, .nameAndType 33 34), (0, u "present"), (0, u "[Z"), (0, .fieldref 8 36), (0, .nameAndType 37 12), (0, u "stream"), (0, .fieldref 8 39), (0, .nameAndType 40 12), (0, u "segBuf"), (0, .fieldref 8 42), (0, .nameAndType 43 12), (0, u "matchSigs"), (0, .fieldref 8 45), (0, .nameAndType 46 12), (0, u "matchEnds"), (0, .fieldref 8 48), (0, .nameAndType 49 50), (0, u "window"), (0, u "I"), (0, .fieldref 8 52), (0, .nameAndType 53 54), (0, u "compiled"), (0, u "Z"), (0, .fieldref 8 56), (0, .nameAndType 57 50), (0, u "sigCount"), (0, .fieldref 8 59), (0, .nameAndType 60 50), (0, u "endedBytes"), (0, .fieldref 8 62), (0, .nameAndType 63 50), (0, u "pendLen"), (0, .fieldref 8 65), (0, .nameAndType 66 50), (0, u "nodeCount"), (0, .fieldref 8 68), (0, .nameAndType 69 50), (0, u "scanState"), (0, .fieldref 8 71), (0, .nameAndType 72 50), (0, u "delivered"), (0, .fieldref 8 74), (0, .nameAndType 75 50), (0, u "held"), (0, .fieldref 8 77), (0, .nameAndType 78 50), (0, u "conflicts"), (0, .fieldref 8 80), (0, .nameAndType 81 50), (0, u "duplicates"), (0, .fieldref 8 83), (0, .nameAndType 84 50), (0, u "dropped"), (0, .fieldref 8 86), (0, .nameAndType 87 50), (0, u "lastConflict"), (0, .fieldref 8 89), (0, .nameAndType 90 54), (0, u "segOpen"), (0, .fieldref 8 92), (0, .nameAndType 93 50), (0, u "segStart"), (0, .fieldref 8 95), (0, .nameAndType 96 50), (0, u "segLen"), (0, .fieldref 8 98), (0, .nameAndType 99 50), (0, u "matchTotal"), (3, u "(I)Z"), (12, u "(I)V"), (0, .methodref 8 118), (0, .nameAndType 119 103), (0, u "isOffset"), (14, .methodref 8 135), (0, .nameAndType 136 137), (0, u "flag"), (0, u "(Z)I"), (6, u "OK"), (2, u "ERR_STATE"), (1, u "ERR_ARG"), (1, u "ERR_FULL"), (1, u "ERR_EMPTY"), (1, u "ERR_RANGE"), (1, u "MAX_SIGS"), (1, u "MAX_SIG_LEN"), (0, u "MAX_SIG_BYTES"), (1, u "STREAM_CAP"), (1, u "MAX_SEG_LEN"), (0, u "MATCH_CAP"), (0, u "MIN_WINDOW"), (1, u "MAX_WINDOW"), (0, u "STAT_DELIVERED"), (0, u "STAT_HELD"), (1, u "STAT_CONFLICTS"), (1, u "STAT_DUPLICATES"), (1, u "STAT_DROPPED"), (1, u "STAT_MATCHES"), (1, u "STAT_SIGS"), (1, u "STAT_SIG_BYTES"), (1, u "STAT_PENDING"), (0, u "STAT_COMPILED"), (1, u "STAT_SEG_OPEN"), (1, u "STAT_SEG_START"), (1, u "STAT_SEG_LEN"), (1, u "STAT_LAST_CONFLICT"), (1, u "STAT_WINDOW"), (1, u "MAX_NODES"), (1, u "ALPHABET"), (4, u "(I)I"), (0, u "endSig"), (0, u "()I"), (0, u "compile"), (0, u "openSegment"), (2, u "stat"), (0, u "byteAt")] 7

def k2c0 : Code := { maxStack := 2, maxLocals := 3, code := prog_1_method_1_code, exceptionTable := #[], attributes := #[] }
def k2m0 : Method := { name := "<init>", desc := "(I)V", sig := { parameters := [.int], returnType := none }, accessFlags := 1, code := some k2c0 }
def k2c1 : Code := { maxStack := 3, maxLocals := 2, code := prog_1_method_3_code, exceptionTable := #[], attributes := #[] }
def k2m1 : Method := { name := "endSig", desc := "()I", sig := { parameters := [], returnType := some .int }, accessFlags := 1, code := some k2c1 }
def k2c2 : Code := { maxStack := 2, maxLocals := 1, code := prog_1_method_4_code, exceptionTable := #[], attributes := #[] }
def k2m2 : Method := { name := "compile", desc := "()I", sig := { parameters := [], returnType := some .int }, accessFlags := 1, code := some k2c2 }
def k2c3 : Code := { maxStack := 2, maxLocals := 2, code := prog_1_method_9_code, exceptionTable := #[], attributes := #[] }
def k2m3 : Method := { name := "openSegment", desc := "(I)I", sig := { parameters := [.int], returnType := some .int }, accessFlags := 1, code := some k2c3 }
def k2c4 : Code := { maxStack := 2, maxLocals := 2, code := prog_1_method_16_code, exceptionTable := #[], attributes := #[] }
def k2m4 : Method := { name := "stat", desc := "(I)I", sig := { parameters := [.int], returnType := some .int }, accessFlags := 1, code := some k2c4 }
def k2c5 : Code := { maxStack := 2, maxLocals := 2, code := prog_1_method_17_code, exceptionTable := #[], attributes := #[] }
def k2m5 : Method := { name := "byteAt", desc := "(I)I", sig := { parameters := [.int], returnType := some .int }, accessFlags := 1, code := some k2c5 }
def k2c6 : Code := { maxStack := 2, maxLocals := 2, code := prog_1_method_23_code, exceptionTable := #[], attributes := #[] }
def k2m6 : Method := { name := "isOffset", desc := "(I)Z", sig := { parameters := [.int], returnType := some .boolean }, accessFlags := 2, code := some k2c6 }
def k2c7 : Code := { maxStack := 1, maxLocals := 2, code := prog_1_method_26_code, exceptionTable := #[], attributes := #[] }
def k2m7 : Method := { name := "flag", desc := "(Z)I", sig := { parameters := [.boolean], returnType := some .int }, accessFlags := 2, code := some k2c7 }
/-- StreamSigScanner -/
def k2 : Class := { plain "StreamSigScanner" (some 0) with
  accessFlags := 49
  interfaces := #[]
  cf := some (fileOf pool2 8 #[] #[{ accessFlags := 1, nameIndex := 5, descriptorIndex := 116, attributes := #[] }, { accessFlags := 1, nameIndex := 205, descriptorIndex := 206, attributes := #[] }, { accessFlags := 1, nameIndex := 207, descriptorIndex := 206, attributes := #[] }, { accessFlags := 1, nameIndex := 208, descriptorIndex := 204, attributes := #[] }, { accessFlags := 1, nameIndex := 211, descriptorIndex := 204, attributes := #[] }, { accessFlags := 1, nameIndex := 212, descriptorIndex := 204, attributes := #[] }, { accessFlags := 2, nameIndex := 119, descriptorIndex := 103, attributes := #[] }, { accessFlags := 2, nameIndex := 136, descriptorIndex := 137, attributes := #[] }] 49 2 #[] #[{ accessFlags := 25, nameIndex := 144, descriptorIndex := 50, attributes := #[] }, { accessFlags := 25, nameIndex := 147, descriptorIndex := 50, attributes := #[] }, { accessFlags := 25, nameIndex := 149, descriptorIndex := 50, attributes := #[] }, { accessFlags := 25, nameIndex := 151, descriptorIndex := 50, attributes := #[] }, { accessFlags := 25, nameIndex := 153, descriptorIndex := 50, attributes := #[] }, { accessFlags := 25, nameIndex := 155, descriptorIndex := 50, attributes := #[] }, { accessFlags := 25, nameIndex := 157, descriptorIndex := 50, attributes := #[] }, { accessFlags := 25, nameIndex := 159, descriptorIndex := 50, attributes := #[] }, { accessFlags := 25, nameIndex := 160, descriptorIndex := 50, attributes := #[] }, { accessFlags := 25, nameIndex := 162, descriptorIndex := 50, attributes := #[] }, { accessFlags := 25, nameIndex := 164, descriptorIndex := 50, attributes := #[] }, { accessFlags := 25, nameIndex := 165, descriptorIndex := 50, attributes := #[] }, { accessFlags := 25, nameIndex := 166, descriptorIndex := 50, attributes := #[] }, { accessFlags := 25, nameIndex := 168, descriptorIndex := 50, attributes := #[] }, { accessFlags := 25, nameIndex := 169, descriptorIndex := 50, attributes := #[] }, { accessFlags := 25, nameIndex := 170, descriptorIndex := 50, attributes := #[] }, { accessFlags := 25, nameIndex := 172, descriptorIndex := 50, attributes := #[] }, { accessFlags := 25, nameIndex := 174, descriptorIndex := 50, attributes := #[] }, { accessFlags := 25, nameIndex := 176, descriptorIndex := 50, attributes := #[] }, { accessFlags := 25, nameIndex := 178, descriptorIndex := 50, attributes := #[] }, { accessFlags := 25, nameIndex := 180, descriptorIndex := 50, attributes := #[] }, { accessFlags := 25, nameIndex := 182, descriptorIndex := 50, attributes := #[] }, { accessFlags := 25, nameIndex := 184, descriptorIndex := 50, attributes := #[] }, { accessFlags := 25, nameIndex := 185, descriptorIndex := 50, attributes := #[] }, { accessFlags := 25, nameIndex := 187, descriptorIndex := 50, attributes := #[] }, { accessFlags := 25, nameIndex := 189, descriptorIndex := 50, attributes := #[] }, { accessFlags := 25, nameIndex := 191, descriptorIndex := 50, attributes := #[] }, { accessFlags := 25, nameIndex := 193, descriptorIndex := 50, attributes := #[] }, { accessFlags := 25, nameIndex := 195, descriptorIndex := 50, attributes := #[] }, { accessFlags := 26, nameIndex := 197, descriptorIndex := 50, attributes := #[] }, { accessFlags := 26, nameIndex := 199, descriptorIndex := 50, attributes := #[] }, { accessFlags := 2, nameIndex := 49, descriptorIndex := 50, attributes := #[] }, { accessFlags := 2, nameIndex := 53, descriptorIndex := 54, attributes := #[] }, { accessFlags := 2, nameIndex := 57, descriptorIndex := 50, attributes := #[] }, { accessFlags := 2, nameIndex := 60, descriptorIndex := 50, attributes := #[] }, { accessFlags := 2, nameIndex := 63, descriptorIndex := 50, attributes := #[] }, { accessFlags := 2, nameIndex := 11, descriptorIndex := 12, attributes := #[] }, { accessFlags := 2, nameIndex := 15, descriptorIndex := 12, attributes := #[] }, { accessFlags := 2, nameIndex := 18, descriptorIndex := 12, attributes := #[] }, { accessFlags := 2, nameIndex := 21, descriptorIndex := 12, attributes := #[] }, { accessFlags := 2, nameIndex := 24, descriptorIndex := 12, attributes := #[] }, { accessFlags := 2, nameIndex := 27, descriptorIndex := 12, attributes := #[] }, { accessFlags := 2, nameIndex := 30, descriptorIndex := 12, attributes := #[] }, { accessFlags := 2, nameIndex := 66, descriptorIndex := 50, attributes := #[] }, { accessFlags := 2, nameIndex := 69, descriptorIndex := 50, attributes := #[] }, { accessFlags := 2, nameIndex := 33, descriptorIndex := 34, attributes := #[] }, { accessFlags := 2, nameIndex := 37, descriptorIndex := 12, attributes := #[] }, { accessFlags := 2, nameIndex := 72, descriptorIndex := 50, attributes := #[] }, { accessFlags := 2, nameIndex := 75, descriptorIndex := 50, attributes := #[] }, { accessFlags := 2, nameIndex := 78, descriptorIndex := 50, attributes := #[] }, { accessFlags := 2, nameIndex := 81, descriptorIndex := 50, attributes := #[] }, { accessFlags := 2, nameIndex := 84, descriptorIndex := 50, attributes := #[] }, { accessFlags := 2, nameIndex := 87, descriptorIndex := 50, attributes := #[] }, { accessFlags := 2, nameIndex := 90, descriptorIndex := 54, attributes := #[] }, { accessFlags := 2, nameIndex := 93, descriptorIndex := 50, attributes := #[] }, { accessFlags := 2, nameIndex := 96, descriptorIndex := 50, attributes := #[] }, { accessFlags := 2, nameIndex := 40, descriptorIndex := 12, attributes := #[] }, { accessFlags := 2, nameIndex := 99, descriptorIndex := 50, attributes := #[] }, { accessFlags := 2, nameIndex := 43, descriptorIndex := 12, attributes := #[] }, { accessFlags := 2, nameIndex := 46, descriptorIndex := 12, attributes := #[] }])
  fields := #[{ name := "OK", type := .int, accessFlags := 25, slot := 0, constantValue := 0 }, { name := "ERR_STATE", type := .int, accessFlags := 25, slot := 1, constantValue := 0 }, { name := "ERR_ARG", type := .int, accessFlags := 25, slot := 2, constantValue := 0 }, { name := "ERR_FULL", type := .int, accessFlags := 25, slot := 3, constantValue := 0 }, { name := "ERR_EMPTY", type := .int, accessFlags := 25, slot := 4, constantValue := 0 }, { name := "ERR_RANGE", type := .int, accessFlags := 25, slot := 5, constantValue := 0 }, { name := "MAX_SIGS", type := .int, accessFlags := 25, slot := 6, constantValue := 0 }, { name := "MAX_SIG_LEN", type := .int, accessFlags := 25, slot := 7, constantValue := 0 }, { name := "MAX_SIG_BYTES", type := .int, accessFlags := 25, slot := 8, constantValue := 0 }, { name := "STREAM_CAP", type := .int, accessFlags := 25, slot := 9, constantValue := 0 }, { name := "MAX_SEG_LEN", type := .int, accessFlags := 25, slot := 10, constantValue := 0 }, { name := "MATCH_CAP", type := .int, accessFlags := 25, slot := 11, constantValue := 0 }, { name := "MIN_WINDOW", type := .int, accessFlags := 25, slot := 12, constantValue := 0 }, { name := "MAX_WINDOW", type := .int, accessFlags := 25, slot := 13, constantValue := 0 }, { name := "STAT_DELIVERED", type := .int, accessFlags := 25, slot := 14, constantValue := 0 }, { name := "STAT_HELD", type := .int, accessFlags := 25, slot := 15, constantValue := 0 }, { name := "STAT_CONFLICTS", type := .int, accessFlags := 25, slot := 16, constantValue := 0 }, { name := "STAT_DUPLICATES", type := .int, accessFlags := 25, slot := 17, constantValue := 0 }, { name := "STAT_DROPPED", type := .int, accessFlags := 25, slot := 18, constantValue := 0 }, { name := "STAT_MATCHES", type := .int, accessFlags := 25, slot := 19, constantValue := 0 }, { name := "STAT_SIGS", type := .int, accessFlags := 25, slot := 20, constantValue := 0 }, { name := "STAT_SIG_BYTES", type := .int, accessFlags := 25, slot := 21, constantValue := 0 }, { name := "STAT_PENDING", type := .int, accessFlags := 25, slot := 22, constantValue := 0 }, { name := "STAT_COMPILED", type := .int, accessFlags := 25, slot := 23, constantValue := 0 }, { name := "STAT_SEG_OPEN", type := .int, accessFlags := 25, slot := 24, constantValue := 0 }, { name := "STAT_SEG_START", type := .int, accessFlags := 25, slot := 25, constantValue := 0 }, { name := "STAT_SEG_LEN", type := .int, accessFlags := 25, slot := 26, constantValue := 0 }, { name := "STAT_LAST_CONFLICT", type := .int, accessFlags := 25, slot := 27, constantValue := 0 }, { name := "STAT_WINDOW", type := .int, accessFlags := 25, slot := 28, constantValue := 0 }, { name := "MAX_NODES", type := .int, accessFlags := 26, slot := 29, constantValue := 0 }, { name := "ALPHABET", type := .int, accessFlags := 26, slot := 30, constantValue := 0 }, { name := "window", type := .int, accessFlags := 2, slot := 0, constantValue := 0 }, { name := "compiled", type := .boolean, accessFlags := 2, slot := 1, constantValue := 0 }, { name := "sigCount", type := .int, accessFlags := 2, slot := 2, constantValue := 0 }, { name := "endedBytes", type := .int, accessFlags := 2, slot := 3, constantValue := 0 }, { name := "pendLen", type := .int, accessFlags := 2, slot := 4, constantValue := 0 }, { name := "sigBytes", type := (.array .int), accessFlags := 2, slot := 5, constantValue := 0 }, { name := "sigStart", type := (.array .int), accessFlags := 2, slot := 6, constantValue := 0 }, { name := "sigLen", type := (.array .int), accessFlags := 2, slot := 7, constantValue := 0 }, { name := "delta", type := (.array .int), accessFlags := 2, slot := 8, constantValue := 0 }, { name := "fail", type := (.array .int), accessFlags := 2, slot := 9, constantValue := 0 }, { name := "outMask", type := (.array .int), accessFlags := 2, slot := 10, constantValue := 0 }, { name := "queue", type := (.array .int), accessFlags := 2, slot := 11, constantValue := 0 }, { name := "nodeCount", type := .int, accessFlags := 2, slot := 12, constantValue := 0 }, { name := "scanState", type := .int, accessFlags := 2, slot := 13, constantValue := 0 }, { name := "present", type := (.array .boolean), accessFlags := 2, slot := 14, constantValue := 0 }, { name := "stream", type := (.array .int), accessFlags := 2, slot := 15, constantValue := 0 }, { name := "delivered", type := .int, accessFlags := 2, slot := 16, constantValue := 0 }, { name := "held", type := .int, accessFlags := 2, slot := 17, constantValue := 0 }, { name := "conflicts", type := .int, accessFlags := 2, slot := 18, constantValue := 0 }, { name := "duplicates", type := .int, accessFlags := 2, slot := 19, constantValue := 0 }, { name := "dropped", type := .int, accessFlags := 2, slot := 20, constantValue := 0 }, { name := "lastConflict", type := .int, accessFlags := 2, slot := 21, constantValue := 0 }, { name := "segOpen", type := .boolean, accessFlags := 2, slot := 22, constantValue := 0 }, { name := "segStart", type := .int, accessFlags := 2, slot := 23, constantValue := 0 }, { name := "segLen", type := .int, accessFlags := 2, slot := 24, constantValue := 0 }, { name := "segBuf", type := (.array .int), accessFlags := 2, slot := 25, constantValue := 0 }, { name := "matchTotal", type := .int, accessFlags := 2, slot := 26, constantValue := 0 }, { name := "matchSigs", type := (.array .int), accessFlags := 2, slot := 27, constantValue := 0 }, { name := "matchEnds", type := (.array .int), accessFlags := 2, slot := 28, constantValue := 0 }]
  methods := #[k2m0, k2m1, k2m2, k2m3, k2m4, k2m5, k2m6, k2m7]
  instanceTypes := #[.int, .boolean, .int, .int, .int, (.array .int), (.array .int), (.array .int), (.array .int), (.array .int), (.array .int), (.array .int), .int, .int, (.array .boolean), (.array .int), .int, .int, .int, .int, .int, .int, .boolean, .int, .int, (.array .int), .int, (.array .int), (.array .int)]
  staticTypes := #[.int, .int, .int, .int, .int, .int, .int, .int, .int, .int, .int, .int, .int, .int, .int, .int, .int, .int, .int, .int, .int, .int, .int, .int, .int, .int, .int, .int, .int, .int, .int]
  resolved := Array.replicate 220 none
  statics := none }

def pool3 : Array CpInfo := pool [(1, u "java/lang/Cloneable"), (0, .class_ 1), (0, u "java/lang/Object"), (0, .class_ 3)] 3

/-- java/lang/Cloneable -/
def k3 : Class := { plain "java/lang/Cloneable" (some 0) with
  accessFlags := 1537
  interfaces := #[]
  cf := some (fileOf pool3 2 #[] #[] 1537 4 #[] #[])
  fields := #[]
  methods := #[]
  instanceTypes := #[]
  staticTypes := #[]
  resolved := Array.replicate 8 none
  statics := none }

def pool4 : Array CpInfo := pool [(1, u "java/io/Serializable"), (0, .class_ 1), (0, u "java/lang/Object"), (0, .class_ 3)] 3

/-- java/io/Serializable -/
def k4 : Class := { plain "java/io/Serializable" (some 0) with
  accessFlags := 1537
  interfaces := #[]
  cf := some (fileOf pool4 2 #[] #[] 1537 4 #[] #[])
  fields := #[]
  methods := #[]
  instanceTypes := #[]
  staticTypes := #[]
  resolved := Array.replicate 8 none
  statics := none }

/-- the primitive boolean -/
def k5 : Class := { plain "boolean" none with kind := .primitive 'Z', accessFlags := 0x411 }
/-- [Z -/
def k6 : Class := { plain "[Z" (some 0) with kind := .array 5 .boolean, interfaces := #[3, 4], accessFlags := 1041 }

/-- the primitive byte -/
def k7 : Class := { plain "byte" none with kind := .primitive 'B', accessFlags := 0x411 }
/-- [B -/
def k8 : Class := { plain "[B" (some 0) with kind := .array 7 .byte, interfaces := #[3, 4], accessFlags := 1041 }

/-- the primitive int -/
def k9 : Class := { plain "int" none with kind := .primitive 'I', accessFlags := 0x411 }
/-- [I -/
def k10 : Class := { plain "[I" (some 0) with kind := .array 9 .int, interfaces := #[3, 4], accessFlags := 1041 }

def heap : Heap := #[]
def classes : Array Class := #[k0, k1, k2, k3, k4, k5, k6, k7, k8, k9, k10]
def interned : List (Array UInt16 × Addr) := []
def slotsUsed : Nat := 0
def theMethod : MethodId := ⟨1, 1⟩
def args0 : Array Value := #[.int 12, .int 3]
def aboutOver (below : List Frame) : State where
  vm := { classes := classes, interned := interned.toArray }
  heap := heap
  slotsUsed := slotsUsed
  threads := #[{ frames := .invoking theMethod args0 :: below }]
def below0 : List Frame := [.native { method := ⟨0, 0⟩, args := #[] }]
def about1 : State := aboutOver below0
def p0 : Program := .bare "" "" ""
def e0 : Env := launch0.env 0 0 0
theorem w_frames : about1.frames = Frame.invoking theMethod args0 :: below0 := rfl
set_option maxRecDepth 65536 in
theorem w_args : argsFit about1.vm theMethod args0 = true := by decide +kernel
set_option maxRecDepth 65536 in
theorem w_heap : heapFits about1 = true := by decide +kernel
set_option maxRecDepth 65536 in
theorem w_runnable : about1.curStatus? = some .runnable := by decide +kernel
set_option maxRecDepth 65536 in
theorem w_alone : about1.alone = true := by decide +kernel
set_option maxRecDepth 65536 in
theorem w_named : about1.methodNamed? x = some theMethod := by decide +kernel
set_option maxRecDepth 65536 in
theorem w_hears : about1.hears theMethod below0 = true := by decide +kernel
set_option maxRecDepth 65536 in
theorem w_ripe : about1.ripe theMethod args0 below0 = true := by decide +kernel
theorem w_running : about1.status = .running := rfl
set_option maxRecDepth 65536 in
theorem w_room : about1.hasRoom e0.platform room_1 = true :=
  launch0.hasRoom_least _ room_1 (by decide +kernel) (by decide +kernel) (by decide +kernel) (by decide +kernel) (by decide +kernel) (by decide +kernel)
theorem allAtoms_all (ts : List Jvm.Cond) (a : Array Jvm.Value) (st : Jvm.State) : (allAtoms ts).before a st = ts.all (fun c => c.before a st) := by
  induction ts with
  | nil => rfl
  | cons c t ih =>
    show (Jvm.Cond.and c (allAtoms t)).before a st = _
    rw [Jvm.Cond.before_and, ih, List.all_cons]
def words1 : List Jvm.Cond := Jvm.Cond.code x code maxLocals ret :: tables_1
/-- a 'code' word, met by the world's own term for the bytes: nothing is compared byte by byte -/
theorem code_word {y : MethodName} {bytes : ByteArray} {mx : Nat} {rt : Option FieldType} {a : Array Value} {s : State} {m : MethodId} {meth : Method} {c : Code} (h1 : s.methodNamed? y = some m) (h2 : s.vm.method? m = some meth) (h3 : meth.code = some c) (h4 : c.code = bytes)
    (h5 : (c.maxLocals == mx && c.exceptionTable.isEmpty && decide (c.maxStack ≤ mostOperands) && decide (meth.sig.returnType = rt) && !meth.locks && decide (parseMethodDescriptor y.desc = some meth.sig)) = true) : (Jvm.Cond.code y bytes mx rt).before a s = true := by
  simp only [Bool.and_eq_true, beq_iff_eq, Bool.not_eq_true', decide_eq_true_eq] at h5
  obtain ⟨⟨⟨⟨⟨g1, g2⟩, g3⟩, g4⟩, g5⟩, g6⟩ := h5
  simp [Cond.before, Cond.holds, Cond.value, h1, h2, h3, h4, g1, g2, g3, g4, g5, g6]
def isCode : Jvm.Cond → Bool
  | .code _ _ _ _ => true
  | _ => false
theorem all_split {L : List Jvm.Cond} {P : Jvm.Cond → Bool} (h1 : L.all (fun c => isCode c || P c) = true) (h2 : ∀ c ∈ L.filter isCode, P c = true) : L.all P = true := by
  refine List.all_eq_true.mpr fun c hc => ?_
  have h := List.all_eq_true.mp h1 c hc
  rcases Bool.eq_false_or_eq_true (isCode c) with hi | hi
  · exact h2 c (List.mem_filter.mpr ⟨hc, hi⟩)
  · simpa [hi] using h
set_option maxRecDepth 65536 in
theorem w_c0 : (Jvm.Cond.code x code maxLocals ret).before args0 about1 = true := code_word (m := ⟨1, 1⟩) (meth := k1m1) (c := k1c1) (by decide +kernel) rfl rfl rfl (by decide +kernel)
set_option maxRecDepth 65536 in
theorem w_c1 : (Jvm.Cond.code ({ cls := "StreamSigScanner", name := "<init>", desc := "(I)V" } : Jvm.MethodName) prog_1_method_1_code (3 : Nat) (Option.none : Option Jvm.ClassFile.FieldType)).before args0 about1 = true := code_word (m := ⟨2, 0⟩) (meth := k2m0) (c := k2c0) (by decide +kernel) rfl rfl rfl (by decide +kernel)
set_option maxRecDepth 65536 in
theorem w_c2 : (Jvm.Cond.code ({ cls := "java/lang/Object", name := "<init>", desc := "()V" } : Jvm.MethodName) object_method_1_code (1 : Nat) (Option.none : Option Jvm.ClassFile.FieldType)).before args0 about1 = true := code_word (m := ⟨0, 0⟩) (meth := k0m0) (c := k0c0) (by decide +kernel) rfl rfl rfl (by decide +kernel)
set_option maxRecDepth 65536 in
theorem w_c3 : (Jvm.Cond.code ({ cls := "StreamSigScanner", name := "stat", desc := "(I)I" } : Jvm.MethodName) prog_1_method_16_code (2 : Nat) (Option.some Jvm.ClassFile.FieldType.int)).before args0 about1 = true := code_word (m := ⟨2, 4⟩) (meth := k2m4) (c := k2c4) (by decide +kernel) rfl rfl rfl (by decide +kernel)
set_option maxRecDepth 65536 in
theorem w_c4 : (Jvm.Cond.code ({ cls := "StreamSigScanner", name := "compile", desc := "()I" } : Jvm.MethodName) prog_1_method_4_code (1 : Nat) (Option.some Jvm.ClassFile.FieldType.int)).before args0 about1 = true := code_word (m := ⟨2, 2⟩) (meth := k2m2) (c := k2c2) (by decide +kernel) rfl rfl rfl (by decide +kernel)
set_option maxRecDepth 65536 in
theorem w_c5 : (Jvm.Cond.code ({ cls := "StreamSigScanner", name := "endSig", desc := "()I" } : Jvm.MethodName) prog_1_method_3_code (2 : Nat) (Option.some Jvm.ClassFile.FieldType.int)).before args0 about1 = true := code_word (m := ⟨2, 1⟩) (meth := k2m1) (c := k2c1) (by decide +kernel) rfl rfl rfl (by decide +kernel)
set_option maxRecDepth 65536 in
theorem w_c6 : (Jvm.Cond.code ({ cls := "StreamSigScanner", name := "openSegment", desc := "(I)I" } : Jvm.MethodName) prog_1_method_9_code (2 : Nat) (Option.some Jvm.ClassFile.FieldType.int)).before args0 about1 = true := code_word (m := ⟨2, 3⟩) (meth := k2m3) (c := k2c3) (by decide +kernel) rfl rfl rfl (by decide +kernel)
set_option maxRecDepth 65536 in
theorem w_c7 : (Jvm.Cond.code ({ cls := "StreamSigScanner", name := "byteAt", desc := "(I)I" } : Jvm.MethodName) prog_1_method_17_code (2 : Nat) (Option.some Jvm.ClassFile.FieldType.int)).before args0 about1 = true := code_word (m := ⟨2, 5⟩) (meth := k2m5) (c := k2c5) (by decide +kernel) rfl rfl rfl (by decide +kernel)
set_option maxRecDepth 65536 in
theorem w_c8 : (Jvm.Cond.code ({ cls := "StreamSigScanner", name := "isOffset", desc := "(I)Z" } : Jvm.MethodName) prog_1_method_23_code (2 : Nat) (Option.some Jvm.ClassFile.FieldType.boolean)).before args0 about1 = true := code_word (m := ⟨2, 6⟩) (meth := k2m6) (c := k2c6) (by decide +kernel) rfl rfl rfl (by decide +kernel)
set_option maxRecDepth 65536 in
theorem w_c9 : (Jvm.Cond.code ({ cls := "StreamSigScanner", name := "flag", desc := "(Z)I" } : Jvm.MethodName) prog_1_method_26_code (2 : Nat) (Option.some Jvm.ClassFile.FieldType.int)).before args0 about1 = true := code_word (m := ⟨2, 7⟩) (meth := k2m7) (c := k2c7) (by decide +kernel) rfl rfl rfl (by decide +kernel)
def codes1 : List Jvm.Cond := [Jvm.Cond.code x code maxLocals ret, Jvm.Cond.code ({ cls := "StreamSigScanner", name := "<init>", desc := "(I)V" } : Jvm.MethodName) prog_1_method_1_code (3 : Nat) (Option.none : Option Jvm.ClassFile.FieldType), Jvm.Cond.code ({ cls := "java/lang/Object", name := "<init>", desc := "()V" } : Jvm.MethodName) object_method_1_code (1 : Nat) (Option.none : Option Jvm.ClassFile.FieldType), Jvm.Cond.code ({ cls := "StreamSigScanner", name := "stat", desc := "(I)I" } : Jvm.MethodName) prog_1_method_16_code (2 : Nat) (Option.some Jvm.ClassFile.FieldType.int), Jvm.Cond.code ({ cls := "StreamSigScanner", name := "compile", desc := "()I" } : Jvm.MethodName) prog_1_method_4_code (1 : Nat) (Option.some Jvm.ClassFile.FieldType.int), Jvm.Cond.code ({ cls := "StreamSigScanner", name := "endSig", desc := "()I" } : Jvm.MethodName) prog_1_method_3_code (2 : Nat) (Option.some Jvm.ClassFile.FieldType.int), Jvm.Cond.code ({ cls := "StreamSigScanner", name := "openSegment", desc := "(I)I" } : Jvm.MethodName) prog_1_method_9_code (2 : Nat) (Option.some Jvm.ClassFile.FieldType.int), Jvm.Cond.code ({ cls := "StreamSigScanner", name := "byteAt", desc := "(I)I" } : Jvm.MethodName) prog_1_method_17_code (2 : Nat) (Option.some Jvm.ClassFile.FieldType.int), Jvm.Cond.code ({ cls := "StreamSigScanner", name := "isOffset", desc := "(I)Z" } : Jvm.MethodName) prog_1_method_23_code (2 : Nat) (Option.some Jvm.ClassFile.FieldType.boolean), Jvm.Cond.code ({ cls := "StreamSigScanner", name := "flag", desc := "(Z)I" } : Jvm.MethodName) prog_1_method_26_code (2 : Nat) (Option.some Jvm.ClassFile.FieldType.int)]
set_option maxRecDepth 65536 in
theorem codes_eq : words1.filter isCode = codes1 := rfl
theorem w_codes : ∀ c ∈ words1.filter isCode, c.before args0 about1 = true := by
  rw [codes_eq]
  intro c hc
  simp only [codes1, List.mem_cons, List.not_mem_nil, or_false] at hc
  rcases hc with rfl | rfl | rfl | rfl | rfl | rfl | rfl | rfl | rfl | rfl
  · exact w_c0
  · exact w_c1
  · exact w_c2
  · exact w_c3
  · exact w_c4
  · exact w_c5
  · exact w_c6
  · exact w_c7
  · exact w_c8
  · exact w_c9
set_option maxRecDepth 65536 in
theorem w_t1 : (words1.take 24).all (fun c => isCode c || c.before args0 about1) = true := by decide +kernel
set_option maxRecDepth 65536 in
theorem w_t2 : ((words1.drop 24).take 24).all (fun c => isCode c || c.before args0 about1) = true := by decide +kernel
set_option maxRecDepth 65536 in
theorem w_t3 : (((words1.drop 24).drop 24).take 24).all (fun c => isCode c || c.before args0 about1) = true := by decide +kernel
set_option maxRecDepth 65536 in
theorem w_t4 : ((((words1.drop 24).drop 24).drop 24).take 24).all (fun c => isCode c || c.before args0 about1) = true := by decide +kernel
set_option maxRecDepth 65536 in
theorem w_t5 : ((((words1.drop 24).drop 24).drop 24).drop 24).all (fun c => isCode c || c.before args0 about1) = true := by decide +kernel
theorem w_tables : (allAtoms (Jvm.Cond.code x code maxLocals ret :: tables_1)).before args0 about1 = true := by
  rw [allAtoms_all]
  show words1.all (fun c => c.before args0 about1) = true
  refine all_split ?_ w_codes
  rw [← List.take_append_drop 24 words1, List.all_append, w_t1, ← List.take_append_drop 24 (words1.drop 24), List.all_append, w_t2, ← List.take_append_drop 24 ((words1.drop 24).drop 24), List.all_append, w_t3, ← List.take_append_drop 24 (((words1.drop 24).drop 24).drop 24), List.all_append, w_t4, w_t5]
  rfl
set_option maxRecDepth 65536 in
theorem w_case : (Jvm.Cond.and given_1 narrow_1).before args0 about1 = true := by decide +kernel
theorem w_applies : (headSpec (Jvm.Cond.code x code maxLocals ret :: tables_1) room_1).applies x e0.platform about1 = true :=
  (Spec.applies_iff w_frames).mpr ⟨w_running, w_runnable, w_alone, w_named, w_hears, w_ripe, w_room, w_tables⟩
theorem atStart : AtStart classFile x code maxLocals ret World_1 tables_1 room_1 Calls_1 rest_1 Pre_1 launch0 p0 e0 about1 theMethod args0 below0 :=
  ⟨lists_1, trivial, launch0.admits_env _ _ _, launch0.least_env, fairChoices_fair.cas, fairChoices_fair.clock, w_frames, w_args, w_heap, w_applies, trivial, trivial, w_case⟩
end start1
theorem witness_1 : WitnessClaimed_1 := ⟨start1.p0, start1.e0, start1.about1, start1.theMethod, start1.args0, start1.below0, start1.atStart⟩
end Jvm.Pilot.@@N@@
