import JvmDerived
import JvmDerived.Pilot.@@N@@Statement
import JvmDerived.Pilot.@@N@@Code
set_option linter.unusedVariables false
set_option linter.unusedSimpArgs false
namespace Jvm.Own
open Sem ClassFile Op Lib Jvm.Stand Jvm.Free Jvm.LawKit Jvm.RoadKit
/-! OWN 1: words of the sheet, resolved -/
abbrev AHeap := List (FieldType × List Value)
abbrev Ws := List Jvm.Cond
def rFld (ws : Ws) (own : String) (i : Nat) : Option (String × String × String) :=
  ws.findSome? fun d => match d with
    | .fieldLink o j C n t => if o = own ∧ j = i then some (C, n, t) else none
    | _ => none
def rCls (ws : Ws) (own : String) (i : Nat) : Option String :=
  ws.findSome? fun d => match d with
    | .classLink o j C => if o = own ∧ j = i then some C else none
    | _ => none
def rMth (ws : Ws) (own : String) (i : Nat) : Option MethodName :=
  ws.findSome? fun d => match d with
    | .methodLink o j y => if o = own ∧ j = i then some y else none
    | _ => none
def rCon (ws : Ws) (own : String) (i : Nat) : Option Int32 :=
  ws.findSome? fun d => match d with
    | .constant o j v => if o = own ∧ j = i then some v else none
    | _ => none
def rConL (ws : Ws) (own : String) (i : Nat) : Option Int64 :=
  ws.findSome? fun d => match d with
    | .constantLong o j v => if o = own ∧ j = i then some v else none
    | _ => none
def rInst (ws : Ws) (C : String) : Option Nat :=
  ws.findSome? fun d => match d with
    | .instantiable c n => if c = C then some n else none
    | _ => none
def rCode (ws : Ws) (y : MethodName) : Option (ByteArray × Nat × Option FieldType) :=
  ws.findSome? fun d => match d with
    | .code z b m r => if z = y then some (b, m, r) else none
    | _ => none
def hasInit (ws : Ws) (C : String) : Bool := ws.any fun d => match d with | .initialized c => c == C | _ => false
def hasArr (ws : Ws) (t : FieldType) : Bool := ws.any fun d => match d with | .arrayClass c => decide (c = t) | _ => false
def hasStat (ws : Ws) (y : MethodName) : Bool := ws.any fun d => match d with | .static z => decide (z = y) | _ => false
def hasIM (ws : Ws) (y : MethodName) : Bool := ws.any fun d => match d with | .instanceMethod z => decide (z = y) | _ => false
def hasPriv (ws : Ws) (y : MethodName) : Bool := ws.any fun d => match d with | .privateMethod z => decide (z = y) | _ => false
def hasDecl (ws : Ws) (y : MethodName) : Bool := ws.any fun d => match d with | .declares z => decide (z = y) | _ => false
def hasSel (ws : Ws) (y : MethodName) : Bool := ws.any fun d => match d with | .selects c z z' => decide (c = y.cls ∧ z = y ∧ z' = y) | _ => false
def hasLays (ws : Ws) (C n t : String) : Bool := ws.any fun d => match d with | .lays c o n' t' => decide (c = C ∧ o = C ∧ n' = n ∧ t' = t) | _ => false
def hasLaysF (ws : Ws) (C n t : String) : Bool := ws.any fun d => match d with | .laysFinal c o n' t' => decide (c = C ∧ o = C ∧ n' = n ∧ t' = t) | _ => false
def layE (C : String) : Jvm.Cond → Option (String × String)
  | .lays c o n t => if c = C ∧ o = C ∧ (parseFieldDescriptor t).isSome = true then some (n, t) else none
  | .laysFinal c o n t => if c = C ∧ o = C ∧ (parseFieldDescriptor t).isSome = true then some (n, t) else none
  | _ => none
def olay (ws : Ws) (C : String) : List (String × String) := ws.filterMap (layE C)
def idx (x : String × String) : List (String × String) → Option Nat
  | [] => none
  | y :: r => if y = x then some 0 else (idx x r).map (· + 1)
def fidx (ws : Ws) (C n t : String) : Option Nat := idx (n, t) (olay ws C)
def gfR (ws : Ws) (own : String) (i : Nat) : Option (String × Nat) :=
  match rFld ws own i with
  | some (C, n, t) => (fidx ws C n t).map fun j => (C, j)
  | none => none
def pfR (ws : Ws) (own mn : String) (i : Nat) : Option (String × Nat × FieldType) :=
  match rFld ws own i with
  | some (C, n, t) =>
    match fidx ws C n t, parseFieldDescriptor t with
    | some j, some ty => if (hasLays ws C n t || (hasLaysF ws C n t && own == C && mn == "<init>")) && (rInst ws C).isSome && (olay ws C).all (fun q => q.1 != n || q.2 == t) then some (C, j, ty) else none
    | _, _ => none
  | none => none
section Res
variable {ws : Ws} {own C n t : String} {i : Nat} {y : MethodName}
theorem rFld_mem (h : rFld ws own i = some (C, n, t)) : Jvm.Cond.fieldLink own i C n t ∈ ws := by
  obtain ⟨d, hd, e⟩ := List.exists_of_findSome?_eq_some h
  split at e
  · split at e
    · rename_i q; obtain ⟨rfl, rfl⟩ := q; cases e; exact hd
    · cases e
  · cases e
theorem rCls_mem (h : rCls ws own i = some C) : Jvm.Cond.classLink own i C ∈ ws := by
  obtain ⟨d, hd, e⟩ := List.exists_of_findSome?_eq_some h
  split at e
  · split at e
    · rename_i q; obtain ⟨rfl, rfl⟩ := q; cases e; exact hd
    · cases e
  · cases e
theorem rMth_mem (h : rMth ws own i = some y) : Jvm.Cond.methodLink own i y ∈ ws := by
  obtain ⟨d, hd, e⟩ := List.exists_of_findSome?_eq_some h
  split at e
  · split at e
    · rename_i q; obtain ⟨rfl, rfl⟩ := q; cases e; exact hd
    · cases e
  · cases e
theorem rCon_mem {v : Int32} (h : rCon ws own i = some v) : Jvm.Cond.constant own i v ∈ ws := by
  obtain ⟨d, hd, e⟩ := List.exists_of_findSome?_eq_some h
  split at e
  · split at e
    · rename_i q; obtain ⟨rfl, rfl⟩ := q; cases e; exact hd
    · cases e
  · cases e
theorem rConL_mem {v : Int64} (h : rConL ws own i = some v) : Jvm.Cond.constantLong own i v ∈ ws := by
  obtain ⟨d, hd, e⟩ := List.exists_of_findSome?_eq_some h
  split at e
  · split at e
    · rename_i q; obtain ⟨rfl, rfl⟩ := q; cases e; exact hd
    · cases e
  · cases e
theorem rInst_mem {k : Nat} (h : rInst ws C = some k) : Jvm.Cond.instantiable C k ∈ ws := by
  obtain ⟨d, hd, e⟩ := List.exists_of_findSome?_eq_some h
  split at e
  · split at e
    · rename_i q; subst q; cases e; exact hd
    · cases e
  · cases e
theorem rCode_mem {b : ByteArray} {k : Nat} {r : Option FieldType} (h : rCode ws y = some (b, k, r)) : Jvm.Cond.code y b k r ∈ ws := by
  obtain ⟨d, hd, e⟩ := List.exists_of_findSome?_eq_some h
  split at e
  · split at e
    · rename_i q; subst q; cases e; exact hd
    · cases e
  · cases e
theorem hasInit_mem (h : hasInit ws C = true) : Jvm.Cond.initialized C ∈ ws := by
  obtain ⟨d, hd, e⟩ := List.any_eq_true.mp h
  split at e
  · rw [beq_iff_eq] at e; subst e; exact hd
  · cases e
theorem hasArr_mem {ty : FieldType} (h : hasArr ws ty = true) : Jvm.Cond.arrayClass ty ∈ ws := by
  obtain ⟨d, hd, e⟩ := List.any_eq_true.mp h
  split at e
  · have e := of_decide_eq_true e; subst e; exact hd
  · cases e
theorem hasStat_mem (h : hasStat ws y = true) : Jvm.Cond.static y ∈ ws := by
  obtain ⟨d, hd, e⟩ := List.any_eq_true.mp h
  split at e
  · have e := of_decide_eq_true e; subst e; exact hd
  · cases e
theorem hasIM_mem (h : hasIM ws y = true) : Jvm.Cond.instanceMethod y ∈ ws := by
  obtain ⟨d, hd, e⟩ := List.any_eq_true.mp h
  split at e
  · have e := of_decide_eq_true e; subst e; exact hd
  · cases e
theorem hasPriv_mem (h : hasPriv ws y = true) : Jvm.Cond.privateMethod y ∈ ws := by
  obtain ⟨d, hd, e⟩ := List.any_eq_true.mp h
  split at e
  · have e := of_decide_eq_true e; subst e; exact hd
  · cases e
theorem hasDecl_mem (h : hasDecl ws y = true) : Jvm.Cond.declares y ∈ ws := by
  obtain ⟨d, hd, e⟩ := List.any_eq_true.mp h
  split at e
  · have e := of_decide_eq_true e; subst e; exact hd
  · cases e
theorem hasSel_mem (h : hasSel ws y = true) : Jvm.Cond.selects y.cls y y ∈ ws := by
  obtain ⟨d, hd, e⟩ := List.any_eq_true.mp h
  split at e
  · obtain ⟨rfl, rfl, rfl⟩ := of_decide_eq_true e; exact hd
  · cases e
theorem hasLays_mem (h : hasLays ws C n t = true) : Jvm.Cond.lays C C n t ∈ ws := by
  obtain ⟨d, hd, e⟩ := List.any_eq_true.mp h
  split at e
  · obtain ⟨rfl, rfl, rfl, rfl⟩ := of_decide_eq_true e; exact hd
  · cases e
theorem hasLaysF_mem (h : hasLaysF ws C n t = true) : Jvm.Cond.laysFinal C C n t ∈ ws := by
  obtain ⟨d, hd, e⟩ := List.any_eq_true.mp h
  split at e
  · obtain ⟨rfl, rfl, rfl, rfl⟩ := of_decide_eq_true e; exact hd
  · cases e
theorem lay_mem (h : (n, t) ∈ olay ws C) : (Jvm.Cond.lays C C n t ∈ ws ∨ Jvm.Cond.laysFinal C C n t ∈ ws) ∧ ∃ ty, parseFieldDescriptor t = some ty := by
  obtain ⟨d, hd, e⟩ := List.mem_filterMap.mp h
  unfold layE at e
  split at e
  · split at e
    · rename_i q; obtain ⟨rfl, rfl, q⟩ := q; cases e; exact ⟨Or.inl hd, Option.isSome_iff_exists.mp q⟩
    · cases e
  · split at e
    · rename_i q; obtain ⟨rfl, rfl, q⟩ := q; cases e; exact ⟨Or.inr hd, Option.isSome_iff_exists.mp q⟩
    · cases e
  · cases e
theorem idx_get {x : String × String} : ∀ {l : List (String × String)} {j : Nat}, idx x l = some j → l[j]? = some x
  | [], _, h => by cases h
  | y :: r, j, h => by
    unfold idx at h
    split at h
    · rename_i q; cases h; simp [q]
    · obtain ⟨j', h', rfl⟩ := Option.map_eq_some_iff.mp h
      simpa using idx_get h'
theorem fidx_mem {j : Nat} (h : fidx ws C n t = some j) : (n, t) ∈ olay ws C := List.mem_of_getElem? (idx_get h)
theorem fidx_inj {n' t' : String} {j : Nat} (h : fidx ws C n t = some j) (h' : fidx ws C n' t' = some j) : n = n' ∧ t = t' := by
  have := (idx_get h).symm.trans (idx_get h')
  simpa using this
theorem gfR_some {j : Nat} (h : gfR ws own i = some (C, j)) : ∃ n t, rFld ws own i = some (C, n, t) ∧ fidx ws C n t = some j := by
  unfold gfR at h
  split at h
  · rename_i C' n' t' q
    obtain ⟨j', h', e⟩ := Option.map_eq_some_iff.mp h
    cases e; exact ⟨_, _, q, h'⟩
  · cases h
theorem pfR_some {mn : String} {j : Nat} {ty : FieldType} (h : pfR ws own mn i = some (C, j, ty)) : ∃ n t, rFld ws own i = some (C, n, t) ∧ fidx ws C n t = some j ∧ parseFieldDescriptor t = some ty ∧
    (Jvm.Cond.lays C C n t ∈ ws ∨ (Jvm.Cond.laysFinal C C n t ∈ ws ∧ own = C ∧ mn = "<init>")) ∧ (∃ k, Jvm.Cond.instantiable C k ∈ ws) ∧ ∀ n' t', (n', t') ∈ olay ws C → n' ≠ n ∨ t' = t := by
  unfold pfR at h
  split at h
  · rename_i C' n' t' q
    split at h
    · rename_i j' ty' q1 q2
      split at h
      · rename_i g
        cases h
        simp only [Bool.and_eq_true, Bool.or_eq_true, beq_iff_eq, List.all_eq_true, bne_iff_ne, ne_eq] at g
        obtain ⟨⟨g1, g2⟩, g3⟩ := g
        obtain ⟨k, hk⟩ := Option.isSome_iff_exists.mp g2
        refine ⟨n', t', q, q1, q2, ?_, ⟨k, rInst_mem hk⟩, fun a b hab => g3 (a, b) hab⟩
        rcases g1 with g1 | ⟨⟨g1, g4⟩, g5⟩
        · exact Or.inl (hasLays_mem g1)
        · exact Or.inr ⟨hasLaysF_mem g1, g4, g5⟩
      · cases h
    · cases h
  · cases h
end Res
end Jvm.Own
namespace Jvm.Own
open Sem ClassFile Op Lib Jvm.Stand Jvm.Free Jvm.LawKit Jvm.RoadKit
/-! OWN 2: the abstract machine -/
abbrev XR := Option (Nat × List Slot × List Value)
def chk {α : Type} (a b : Nat) (x : Option α) : Option α := if a = b then x else none
def isI : Value → Bool | .int _ => true | _ => false
def isL : Value → Bool | .long _ => true | _ => false
def stl (ls : List Slot) (i : Nat) (v : Value) : Option (List Slot) := (storeLocals ls.toArray i v).map Array.toList
def ldV (p : Value → Bool) (nx i : Nat) (ls : List Slot) (st : List Value) : XR :=
  match ls[i]? with
  | some (.val v) => if p v = true then some (nx, ls, v :: st) else none
  | _ => none
def stV (p : Value → Bool) (nx i : Nat) (ls : List Slot) : List Value → XR
  | v :: r => if p v = true then (stl ls i v).map fun l' => (nx, l', r) else none
  | [] => none
def b2 (f : Int32 → Int32 → Int32) (nx : Nat) (ls : List Slot) : List Value → XR
  | .int y :: .int x :: r => some (nx, ls, .int (f x y) :: r)
  | _ => none
def d2 (f : Int32 → Int32 → Int32) (nx : Nat) (ls : List Slot) : List Value → XR
  | .int y :: .int x :: r => if y = 0 then none else some (nx, ls, .int (f x y) :: r)
  | _ => none
def u1 (f : Int32 → Int32) (nx : Nat) (ls : List Slot) : List Value → XR
  | .int x :: r => some (nx, ls, .int (f x) :: r)
  | _ => none
def l2 (f : Int64 → Int64 → Int64) (nx : Nat) (ls : List Slot) : List Value → XR
  | .long y :: .long x :: r => some (nx, ls, .long (f x y) :: r)
  | _ => none
def lsh (f : Int64 → Int32 → Int64) (nx : Nat) (ls : List Slot) : List Value → XR
  | .int y :: .long x :: r => some (nx, ls, .long (f x y) :: r)
  | _ => none
def jmp (pc : Nat) (o : Int) : Option Nat := if 0 ≤ (pc : Int) + o then some ((pc : Int) + o).toNat else none
def br (c : Bool) (pc : Nat) (o : Int) (ls : List Slot) (r : List Value) : XR :=
  if c = true then (jmp pc o).map fun q => (q, ls, r) else some (pc + 3, ls, r)
def sw (pc : Nat) (dflt low high : Int) (offs : Array Int) (ls : List Slot) : List Value → XR
  | .int i :: r => if i.toInt < low ∨ i.toInt > high then (jmp pc dflt).map fun q => (q, ls, r) else
      match offs[(i.toInt - low).toNat]? with
      | some o => (jmp pc o).map fun q => (q, ls, r)
      | none => none
  | _ => none
def xstep (ins : Instr) (len pc : Nat) (ls : List Slot) (st : List Value) : XR :=
  match ins with
  | .aload_n i => chk len 1 (ldV Value.isRef (pc + 1) i.val ls st)
  | .aload i => chk len 2 (ldV Value.isRef (pc + 2) i ls st)
  | .iload_n i => chk len 1 (ldV isI (pc + 1) i.val ls st)
  | .iload i => chk len 2 (ldV isI (pc + 2) i ls st)
  | .lload_n i => chk len 1 (ldV isL (pc + 1) i.val ls st)
  | .lload i => chk len 2 (ldV isL (pc + 2) i ls st)
  | .astore_n i => chk len 1 (stV Value.isRef (pc + 1) i.val ls st)
  | .astore i => chk len 2 (stV Value.isRef (pc + 2) i ls st)
  | .istore_n i => chk len 1 (stV isI (pc + 1) i.val ls st)
  | .istore i => chk len 2 (stV isI (pc + 2) i ls st)
  | .lstore_n i => chk len 1 (stV isL (pc + 1) i.val ls st)
  | .lstore i => chk len 2 (stV isL (pc + 2) i ls st)
  | .iconst i => chk len 1 (some (pc + 1, ls, .int (Int32.ofInt i) :: st))
  | .bipush i => chk len 2 (some (pc + 2, ls, .int (Int8.ofInt i).toInt32 :: st))
  | .sipush i => chk len 3 (some (pc + 3, ls, .int (Int16.ofInt i).toInt32 :: st))
  | .lconst i => chk len 1 (some (pc + 1, ls, .long (Int64.ofNat i) :: st))
  | .iadd => chk len 1 (b2 (fun x y => x + y) (pc + 1) ls st)
  | .isub => chk len 1 (b2 (fun x y => x - y) (pc + 1) ls st)
  | .imul => chk len 1 (b2 (fun x y => x * y) (pc + 1) ls st)
  | .iand => chk len 1 (b2 (fun x y => x &&& y) (pc + 1) ls st)
  | .ior => chk len 1 (b2 (fun x y => x ||| y) (pc + 1) ls st)
  | .ixor => chk len 1 (b2 (fun x y => x ^^^ y) (pc + 1) ls st)
  | .ishl => chk len 1 (b2 (fun x y => x <<< (y &&& 31)) (pc + 1) ls st)
  | .ishr => chk len 1 (b2 (fun x y => x >>> (y &&& 31)) (pc + 1) ls st)
  | .iushr => chk len 1 (b2 XT.ushr (pc + 1) ls st)
  | .idiv => chk len 1 (d2 (fun x y => x / y) (pc + 1) ls st)
  | .irem => chk len 1 (d2 (fun x y => x % y) (pc + 1) ls st)
  | .ineg => chk len 1 (u1 (fun x => -x) (pc + 1) ls st)
  | .i2b => chk len 1 (u1 (fun x => x.toInt8.toInt32) (pc + 1) ls st)
  | .i2c => chk len 1 (u1 (fun x => x.toUInt32.toUInt16.toUInt32.toInt32) (pc + 1) ls st)
  | .ladd => chk len 1 (l2 (fun x y => x + y) (pc + 1) ls st)
  | .lsub => chk len 1 (l2 (fun x y => x - y) (pc + 1) ls st)
  | .lmul => chk len 1 (l2 (fun x y => x * y) (pc + 1) ls st)
  | .land => chk len 1 (l2 (fun x y => x &&& y) (pc + 1) ls st)
  | .lor => chk len 1 (l2 (fun x y => x ||| y) (pc + 1) ls st)
  | .lxor => chk len 1 (l2 (fun x y => x ^^^ y) (pc + 1) ls st)
  | .lshl => chk len 1 (lsh (fun x y => x <<< (y.toInt64 &&& 63)) (pc + 1) ls st)
  | .lshr => chk len 1 (lsh (fun x y => x >>> (y.toInt64 &&& 63)) (pc + 1) ls st)
  | .lushr => chk len 1 (lsh XT.ushrL (pc + 1) ls st)
  | .lneg => chk len 1 (match st with | .long x :: r => some (pc + 1, ls, .long (-x) :: r) | _ => none)
  | .i2l => chk len 1 (match st with | .int x :: r => some (pc + 1, ls, .long x.toInt64 :: r) | _ => none)
  | .l2i => chk len 1 (match st with | .long x :: r => some (pc + 1, ls, .int x.toInt32 :: r) | _ => none)
  | .lcmp => chk len 1 (match st with | .long y :: .long x :: r => some (pc + 1, ls, .int (XT.cmpL x y) :: r) | _ => none)
  | .iinc i cst => chk len 3 (match ls[i]? with | some (.val (.int x)) => (stl ls i (.int (x + Int32.ofInt cst))).map fun l' => (pc + 3, l', st) | _ => none)
  | .dup => chk len 1 (match st with | x :: r => if x.category = 1 then some (pc + 1, ls, x :: x :: r) else none | _ => none)
  | .dup2 => chk len 1 (match st with
      | .long x :: r => some (pc + 1, ls, .long x :: .long x :: r)
      | x :: y :: r => if x.category = 1 ∧ y.category = 1 then some (pc + 1, ls, x :: y :: x :: y :: r) else none
      | _ => none)
  | .pop => chk len 1 (match st with | x :: r => if x.category = 1 then some (pc + 1, ls, r) else none | _ => none)
  | .goto o => chk len 3 ((jmp pc o).map fun q => (q, ls, st))
  | .ifCond cd o => chk len 3 (match st with | .int x :: r => br (ifCond.holds cd x) pc o ls r | _ => none)
  | .if_icmp cd o => chk len 3 (match st with | .int y :: .int x :: r => br (if_icmp.holds cd x y) pc o ls r | _ => none)
  | .tableswitch dflt low high offs => sw pc dflt low high offs ls st
  | _ => none
abbrev HR := Option (Nat × List Value × AHeap)
def putv : FieldType → Value → Option Value
  | .int, .int x => some (.int x)
  | .boolean, .int x => some (.int (nar .boolean x))
  | .byte, .int x => some (.int (nar .byte x))
  | .char, .int x => some (.int (nar .char x))
  | .short, .int x => some (.int (nar .short x))
  | .long, .long x => some (.long x)
  | .array _, .ref a => some (.ref a)
  | _, _ => none
def dflt (q : String × String) : Value := match parseFieldDescriptor q.2 with | some ty => defaultValue ty | none => .null
def hGet (ws : Ws) (own : String) (i pc : Nat) (H : AHeap) : List Value → HR
  | .ref a :: r =>
    match gfR ws own i, H[a]? with
    | some (C, j), some (.object C', vs) => if C = C' then (vs[j]?).map fun v => (pc + 3, v :: r, H) else none
    | _, _ => none
  | _ => none
def hPut (ws : Ws) (k : Nat) (own mn : String) (i pc : Nat) (H : AHeap) : List Value → HR
  | v :: .ref a :: r =>
    match pfR ws own mn i, H[a]? with
    | some (C, j, ty), some (.object C', vs) => if C = C' ∧ k ≤ a ∧ j < vs.length then (putv ty v).map fun v' => (pc + 3, r, H.set a (.object C', vs.set j v')) else none
    | _, _ => none
  | _ => none
def hNew (ws : Ws) (own : String) (i pc : Nat) (H : AHeap) (st : List Value) : HR :=
  match rCls ws own i with
  | some C => if (rInst ws C).isSome = true ∧ hasInit ws C = true then some (pc + 3, .ref H.length :: st, H ++ [(.object C, (olay ws C).map dflt)]) else none
  | none => none
def hNewA (ws : Ws) (aty : ArrayType) (pc : Nat) (H : AHeap) : List Value → HR
  | .int n :: r => if hasArr ws (newarray.typeOf aty) = true ∧ ¬ n < 0 ∧ n.toNatClampNeg * 8 ≤ 536870912 then
      some (pc + 2, .ref H.length :: r, H ++ [(.array (newarray.typeOf aty), List.replicate n.toNatClampNeg (defaultValue (newarray.typeOf aty)))]) else none
  | _ => none
def hLd (ok : FieldType → Bool) (pc : Nat) (H : AHeap) : List Value → HR
  | .int j :: .ref a :: r =>
    match H[a]? with
    | some (.array ty, vs) => if ok ty = true ∧ ¬ j < 0 then (vs[j.toNatClampNeg]?).map fun v => (pc + 1, v :: r, H) else none
    | _ => none
  | _ => none
def hSt (ok : FieldType → Bool) (k pc : Nat) (H : AHeap) : List Value → HR
  | v :: .int j :: .ref a :: r =>
    match H[a]? with
    | some (.array ty, vs) => if ok ty = true ∧ k ≤ a ∧ ¬ j < 0 ∧ j.toNatClampNeg < vs.length then (putv ty v).map fun v' => (pc + 1, r, H.set a (.array ty, vs.set j.toNatClampNeg v')) else none
    | _ => none
  | _ => none
def hLen (pc : Nat) (H : AHeap) : List Value → HR
  | .ref a :: r =>
    match H[a]? with
    | some (.array _, vs) => some (pc + 1, .int vs.length.toInt32 :: r, H)
    | _ => none
  | _ => none
def okT (t u : FieldType) : Bool := decide (u = t)
def okB (u : FieldType) : Bool := decide (u = .byte) || decide (u = .boolean)
def hstep (ws : Ws) (k : Nat) (y : MethodName) (ins : Instr) (len pc : Nat) (st : List Value) (H : AHeap) : HR :=
  match ins with
  | .getfield i => chk len 3 (hGet ws y.cls i pc H st)
  | .putfield i => chk len 3 (hPut ws k y.cls y.name i pc H st)
  | .new i => chk len 3 (hNew ws y.cls i pc H st)
  | .newarray aty => chk len 2 (hNewA ws aty pc H st)
  | .iaload => chk len 1 (hLd (okT .int) pc H st)
  | .caload => chk len 1 (hLd (okT .char) pc H st)
  | .laload => chk len 1 (hLd (okT .long) pc H st)
  | .baload => chk len 1 (hLd okB pc H st)
  | .iastore => chk len 1 (hSt (okT .int) k pc H st)
  | .castore => chk len 1 (hSt (okT .char) k pc H st)
  | .lastore => chk len 1 (hSt (okT .long) k pc H st)
  | .bastore => chk len 1 (hSt okB k pc H st)
  | .arraylength => chk len 1 (hLen pc H st)
  | .ldc i => chk len 2 ((rCon ws y.cls i).map fun v => (pc + 2, .int v :: st, H))
  | .ldc_w i => chk len 3 ((rCon ws y.cls i).map fun v => (pc + 3, .int v :: st, H))
  | .ldc2_w i => chk len 3 ((rConL ws y.cls i).map fun v => (pc + 3, .long v :: st, H))
  | _ => none
def ent : List Value → List Slot
  | [] => []
  | v :: r => if v.category = 2 then .val v :: .second :: ent r else .val v :: ent r
def entry (as : List Value) (mx : Nat) : List Slot := ent as ++ List.replicate (mx - (ent as).length) .unset
def wsum (st : List Value) : Nat := (st.map fun v => v.category).sum
abbrev Dn := List (MethodName × Nat × Nat)
def dnOf (dn : Dn) (y : MethodName) : Option (Nat × Nat) := dn.findSome? fun q => if q.1 = y then some q.2 else none
/-- what a methodref says: callee, its code, max_locals, return, number of parameters, slack for what lies under -/
def cR (ws : Ws) (dn : Dn) (y : MethodName) (i : Nat) : Option (MethodName × ByteArray × Nat × Option FieldType × Nat × Nat) :=
  match rMth ws y.cls i with
  | none => none
  | some y' =>
    match rCode ws y', dnOf dn y', dnOf dn y, parseMethodDescriptor y'.desc with
    | some (b, mx, r), some (f', l'), some (f, l), some sig =>
      if hasInit ws y'.cls = true ∧ Jvm.plainName y'.cls = true ∧ y'.cls ≠ "java/lang/invoke/MethodHandle" ∧ y'.cls ≠ "java/lang/invoke/VarHandle" ∧ f' + 1 ≤ f ∧ mx + 11 + l' ≤ l then
        some (y', b, mx, r, sig.parameters.length, l - (mx + 11 + l')) else none
    | _, _, _, _ => none
def sR (ws : Ws) (dn : Dn) (y : MethodName) (i : Nat) : Option (MethodName × ByteArray × Nat × Option FieldType × Nat × Nat) :=
  match cR ws dn y i with
  | some q => if hasStat ws q.1 = true then some q else none
  | none => none
def nR (ws : Ws) (dn : Dn) (y : MethodName) (i : Nat) : Option (MethodName × ByteArray × Nat × Option FieldType × Nat × Nat) :=
  match cR ws dn y i with
  | some q => if q.1.name = "<init>" ∧ hasIM ws q.1 = true ∧ q.2.2.2.1 = none then some q else none
  | none => none
/-- the first: is it private? -/
def vR (ws : Ws) (dn : Dn) (y : MethodName) (i : Nat) : Option (Bool × MethodName × ByteArray × Nat × Option FieldType × Nat × Nat) :=
  match cR ws dn y i with
  | some q => if hasIM ws q.1 = true then
      (if hasPriv ws q.1 = true ∧ (rInst ws q.1.cls).isSome = true then some (true, q) else if hasDecl ws q.1 = true ∧ hasSel ws q.1 = true then some (false, q) else none) else none
  | none => none
/-- Object.<init>: how many words may lie under it -/
def oR (ws : Ws) (dn : Dn) (y : MethodName) (i : Nat) : Option Nat :=
  match rMth ws y.cls i, rCode ws Lib.objectInit, dnOf dn y with
  | some y', some (b, mx, r), some (f, l) =>
    if y' = Lib.objectInit ∧ hasIM ws Lib.objectInit = true ∧ b.data = #[0xb1] ∧ mx = 1 ∧ r = none ∧ 1 ≤ f ∧ 12 ≤ l then some (l - 12) else none
  | _, _, _ => none
abbrev Call := MethodName × ByteArray × Option FieldType × List Slot × List Value
/-- returns and calls -/
def cstep (ws : Ws) (dn : Dn) (y : MethodName) (ret : Option FieldType) (ins : Instr) (len pc : Nat) (ls : List Slot) (st : List Value) (H : AHeap) : Option (Option Value ⊕ (Nat × List Slot × List Value × AHeap) ⊕ Call) :=
  match ins with
  | .ireturn => chk len 1 (match st, ret with
      | .int z :: _, some t => if t = .int ∨ t = .boolean ∨ t = .byte ∨ t = .char ∨ t = .short then some (.inl (some (.int (nar t z)))) else none
      | _, _ => none)
  | .lreturn => chk len 1 (match st, ret with
      | [.long z], some .long => some (.inl (some (.long z)))
      | _, _ => none)
  | .return_ => chk len 1 (match st, ret with
      | [], none => some (.inl none)
      | _, _ => none)
  | .invokestatic i => chk len 3 (match sR ws dn y i with
      | some (y', b, mx, r, na, sl) =>
        if na ≤ st.length ∧ wsum (st.drop na) ≤ sl ∧ (ent (st.take na).reverse).length ≤ mx then
          some (.inr (.inr (y', b, r, entry (st.take na).reverse mx, st.drop na)))
        else none
      | none => none)
  | .invokespecial i => chk len 3 (match oR ws dn y i with
      | some sl => (match st with
          | .ref _ :: r => if wsum r ≤ sl then some (.inr (.inl (pc + 3, ls, r, H))) else none
          | _ => none)
      | none => match nR ws dn y i with
        | some (y', b, mx, r, na, sl) =>
          (match st.drop na with
          | .ref a :: rest =>
            if wsum rest ≤ sl ∧ (ent (.ref a :: (st.take na).reverse)).length ≤ mx ∧ na ≤ st.length then
              some (.inr (.inr (y', b, r, entry (.ref a :: (st.take na).reverse) mx, rest)))
            else none
          | _ => none)
        | none => none)
  | .invokevirtual i => chk len 3 (match vR ws dn y i with
      | some (pv, y', b, mx, r, na, sl) =>
        (match st.drop na with
        | .ref a :: rest =>
          (match H[a]? with
          | some (.object C, _) =>
            if (pv = true ∨ C = y'.cls) ∧ wsum rest ≤ sl ∧ (ent (.ref a :: (st.take na).reverse)).length ≤ mx ∧ na ≤ st.length then
              some (.inr (.inr (y', b, r, entry (.ref a :: (st.take na).reverse) mx, rest)))
            else none
          | _ => none)
        | _ => none)
      | none => none)
  | _ => none
/-- what the machine does next: it returns, it steps, it calls -/
def act (ws : Ws) (dn : Dn) (k : Nat) (y : MethodName) (bytes : ByteArray) (ret : Option FieldType) (pc : Nat) (ls : List Slot) (st : List Value) (H : AHeap) : Option (Option Value ⊕ (Nat × List Slot × List Value × AHeap) ⊕ Call) :=
  match decode bytes pc with
  | .error _ => none
  | .ok (ins, len) =>
    match xstep ins len pc ls st with
    | some q => some (.inr (.inl (q.1, q.2.1, q.2.2, H)))
    | none => match hstep ws k y ins len pc st H with
      | some q => some (.inr (.inl (q.1, ls, q.2.1, q.2.2)))
      | none => cstep ws dn y ret ins len pc ls st H
def run (ws : Ws) (dn : Dn) (k : Nat) : Nat → MethodName → ByteArray → Option FieldType → Nat → List Slot → List Value → AHeap → Option (Option Value × AHeap)
  | 0, _, _, _, _, _, _, _ => none
  | n + 1, y, bytes, ret, pc, ls, st, H =>
    match act ws dn k y bytes ret pc ls st H with
    | none => none
    | some (.inl v) => some (v, H)
    | some (.inr (.inl (pc', ls', st', H'))) => run ws dn k n y bytes ret pc' ls' st' H'
    | some (.inr (.inr (y', b, r, en, rest))) =>
      match run ws dn k n y' b r 0 en [] H with
      | some (v, H1) => run ws dn k n y bytes ret (pc + 3) ls (v.toList ++ rest) H1
      | none => none
end Jvm.Own
namespace Jvm.Own
open Sem ClassFile Op Lib Jvm.Stand Jvm.Free Jvm.LawKit Jvm.RoadKit
/-! OWN 3: the abstract machine's plain steps are the machine's -/
def ren (f : Nat → Nat) : Value → Value
  | .ref a => .ref (f a)
  | v => v
def renS (f : Nat → Nat) : Slot → Slot
  | .val v => .val (ren f v)
  | s => s
abbrev fr (f : Nat → Nat) (m : MethodId) (pc : Nat) (ls : List Slot) (st : List Value) : JFrame := mkF m pc (ls.map (renS f)).toArray (st.map (ren f))
theorem ren_cat (f : Nat → Nat) (v : Value) : (ren f v).category = v.category := by cases v <;> rfl
theorem ren_isRef (f : Nat → Nat) (v : Value) : (ren f v).isRef = v.isRef := by cases v <;> rfl
theorem isI_int {v : Value} (h : isI v = true) : ∃ x, v = .int x := by cases v <;> first | exact ⟨_, rfl⟩ | cases h
theorem isL_long {v : Value} (h : isL v = true) : ∃ x, v = .long x := by cases v <;> first | exact ⟨_, rfl⟩ | cases h
theorem chk_some {α : Type} {a b : Nat} {x : Option α} {r : α} (h : chk a b x = some r) : a = b ∧ x = some r := by
  unfold chk at h
  split at h
  · exact ⟨by assumption, h⟩
  · cases h
theorem loc_get {f : Nat → Nat} {ls : List Slot} {i : Nat} {s : Slot} (h : ls[i]? = some s) : ((ls.map (renS f)).toArray)[i]? = some (renS f s) := by
  rw [List.getElem?_toArray, List.getElem?_map, h]; rfl
theorem setAt_ren (f : Nat → Nat) (l : Array Slot) (i : Nat) (x : Slot) : setAt (l.map (renS f)) i (renS f x) = (setAt l i x).map fun a => a.map (renS f) := by
  unfold setAt
  rw [Array.size_map]
  split
  · rw [Option.map_some, Array.map_setIfInBounds]
  · rfl
theorem storeSelf_ren (f : Nat → Nat) (l : Array Slot) (i : Nat) (v : Value) : storeSelf (l.map (renS f)) i (ren f v) = (storeSelf l i v).map fun a => a.map (renS f) := by
  have h0 : setAt (l.map (renS f)) i (.val (ren f v)) = _ := setAt_ren f l i (.val v)
  simp only [storeSelf, h0, ren_cat]
  cases setAt l i (.val v) with
  | none => rfl
  | some l1 =>
    simp only [Option.map_some, Option.bind_eq_bind, Option.bind_some, bind_pure_comp]
    split
    · rw [Array.getElem?_map]
      cases l1[i + 1]? with
      | none => rfl
      | some s =>
        simp only [Option.map_some, Option.bind_some]
        cases s with
        | unset => exact setAt_ren f l1 (i + 1) .second
        | second => exact setAt_ren f l1 (i + 1) .second
        | val w =>
          simp only [renS, ren_cat]
          split
          · have h1 : setAt (l1.map (renS f)) (i + 2) .unset = _ := setAt_ren f l1 (i + 2) .unset
            rw [h1]
            cases setAt l1 (i + 2) .unset with
            | none => rfl
            | some l2 => exact setAt_ren f l2 (i + 1) .second
          · exact setAt_ren f l1 (i + 1) .second
    · rfl
theorem storeLocals_ren (f : Nat → Nat) (l : Array Slot) (i : Nat) (v : Value) : storeLocals (l.map (renS f)) i (ren f v) = (storeLocals l i v).map fun a => a.map (renS f) := by
  simp only [storeLocals, Array.getElem?_map]
  cases l[i]? with
  | none => rfl
  | some s =>
    simp only [Option.map_some, Option.bind_eq_bind, Option.bind_some]
    cases s with
    | unset => exact storeSelf_ren f l i v
    | second =>
      have h1 : setAt (l.map (renS f)) (i - 1) .unset = _ := setAt_ren f l (i - 1) .unset
      simp only [renS, h1]
      cases setAt l (i - 1) .unset with
      | none => rfl
      | some l2 => exact storeSelf_ren f l2 i v
    | val w =>
      simp only [renS, ren_cat]
      split
      · have h1 : setAt (l.map (renS f)) (i + 1) .unset = _ := setAt_ren f l (i + 1) .unset
        rw [h1]
        cases setAt l (i + 1) .unset with
        | none => rfl
        | some l2 => exact storeSelf_ren f l2 i v
      · exact storeSelf_ren f l i v
theorem stl_ren {f : Nat → Nat} {ls l' : List Slot} {i : Nat} {v : Value} (h : stl ls i v = some l') : storeLocals (ls.map (renS f)).toArray i (ren f v) = some (l'.map (renS f)).toArray := by
  unfold stl at h
  obtain ⟨a, ha, rfl⟩ := Option.map_eq_some_iff.mp h
  have := storeLocals_ren f ls.toArray i v
  rw [ha] at this
  rw [← List.map_toArray, this]
  simp [← Array.toList_inj]
theorem setAt_size {l l' : Array Slot} {i : Nat} {x : Slot} (h : setAt l i x = some l') : l'.size = l.size := by
  unfold setAt at h
  split at h
  · cases h; simp
  · cases h
theorem storeSelf_size {l l' : Array Slot} {i : Nat} {v : Value} (h : storeSelf l i v = some l') : l'.size = l.size := by
  simp only [storeSelf, Option.bind_eq_bind, Option.bind_eq_some_iff] at h
  obtain ⟨l1, h1, h⟩ := h
  have e1 := setAt_size h1
  split at h
  · obtain ⟨s, -, h⟩ := Option.bind_eq_some_iff.mp h
    split at h
    · split at h
      · obtain ⟨l2, h2, h⟩ := Option.bind_eq_some_iff.mp h
        rw [setAt_size h, setAt_size h2, e1]
      · rw [setAt_size h, e1]
    · rw [setAt_size h, e1]
  · cases h; exact e1
theorem storeLocals_size {l l' : Array Slot} {i : Nat} {v : Value} (h : storeLocals l i v = some l') : l'.size = l.size := by
  simp only [storeLocals, Option.bind_eq_bind, Option.bind_eq_some_iff] at h
  obtain ⟨s, -, h⟩ := h
  split at h
  · obtain ⟨l2, h2, h⟩ := Option.bind_eq_some_iff.mp h
    rw [storeSelf_size h, setAt_size h2]
  · split at h
    · obtain ⟨l2, h2, h⟩ := Option.bind_eq_some_iff.mp h
      rw [storeSelf_size h, setAt_size h2]
    · exact storeSelf_size h
  · exact storeSelf_size h
theorem stl_size {ls l' : List Slot} {i : Nat} {v : Value} (h : stl ls i v = some l') : l'.length = ls.length := by
  unfold stl at h
  obtain ⟨a, ha, rfl⟩ := Option.map_eq_some_iff.mp h
  have := storeLocals_size ha
  simpa using this
theorem ldV_some {p : Value → Bool} {nx i : Nat} {ls : List Slot} {st : List Value} {q : Nat × List Slot × List Value} (h : ldV p nx i ls st = some q) : ∃ v, ls[i]? = some (.val v) ∧ p v = true ∧ q = (nx, ls, v :: st) := by
  unfold ldV at h
  split at h
  · rename_i v hv
    split at h
    · cases h; exact ⟨v, hv, by assumption, rfl⟩
    · cases h
  · cases h
theorem stV_some {p : Value → Bool} {nx i : Nat} {ls : List Slot} {st : List Value} {q : Nat × List Slot × List Value} (h : stV p nx i ls st = some q) : ∃ v r l', st = v :: r ∧ p v = true ∧ stl ls i v = some l' ∧ q = (nx, l', r) := by
  unfold stV at h
  split at h
  · split at h
    · obtain ⟨l', h1, h2⟩ := Option.map_eq_some_iff.mp h
      exact ⟨_, _, l', rfl, by assumption, h1, h2.symm⟩
    · cases h
  · cases h
theorem b2_some {f : Int32 → Int32 → Int32} {nx : Nat} {ls : List Slot} {st : List Value} {q : Nat × List Slot × List Value} (h : b2 f nx ls st = some q) : ∃ x y r, st = .int y :: .int x :: r ∧ q = (nx, ls, .int (f x y) :: r) := by
  unfold b2 at h
  split at h
  · cases h; exact ⟨_, _, _, rfl, rfl⟩
  · cases h
theorem d2_some {f : Int32 → Int32 → Int32} {nx : Nat} {ls : List Slot} {st : List Value} {q : Nat × List Slot × List Value} (h : d2 f nx ls st = some q) : ∃ x y r, st = .int y :: .int x :: r ∧ y ≠ 0 ∧ q = (nx, ls, .int (f x y) :: r) := by
  unfold d2 at h
  split at h
  · split at h
    · cases h
    · cases h; exact ⟨_, _, _, rfl, by assumption, rfl⟩
  · cases h
theorem u1_some {f : Int32 → Int32} {nx : Nat} {ls : List Slot} {st : List Value} {q : Nat × List Slot × List Value} (h : u1 f nx ls st = some q) : ∃ x r, st = .int x :: r ∧ q = (nx, ls, .int (f x) :: r) := by
  unfold u1 at h
  split at h
  · cases h; exact ⟨_, _, rfl, rfl⟩
  · cases h
theorem l2_some {f : Int64 → Int64 → Int64} {nx : Nat} {ls : List Slot} {st : List Value} {q : Nat × List Slot × List Value} (h : l2 f nx ls st = some q) : ∃ x y r, st = .long y :: .long x :: r ∧ q = (nx, ls, .long (f x y) :: r) := by
  unfold l2 at h
  split at h
  · cases h; exact ⟨_, _, _, rfl, rfl⟩
  · cases h
theorem lsh_some {f : Int64 → Int32 → Int64} {nx : Nat} {ls : List Slot} {st : List Value} {q : Nat × List Slot × List Value} (h : lsh f nx ls st = some q) : ∃ x y r, st = .int y :: .long x :: r ∧ q = (nx, ls, .long (f x y) :: r) := by
  unfold lsh at h
  split at h
  · cases h; exact ⟨_, _, _, rfl, rfl⟩
  · cases h
theorem jmp_some {pc q : Nat} {o : Int} (h : jmp pc o = some q) : 0 ≤ (pc : Int) + o ∧ ((pc : Int) + o).toNat = q := by
  unfold jmp at h
  split at h
  · cases h; exact ⟨by assumption, rfl⟩
  · cases h
theorem br_some {c : Bool} {pc : Nat} {o : Int} {ls : List Slot} {r : List Value} {q : Nat × List Slot × List Value} (h : br c pc o ls r = some q) : (c = true ∧ ∃ t, 0 ≤ (pc : Int) + o ∧ ((pc : Int) + o).toNat = t ∧ q = (t, ls, r)) ∨ (c = false ∧ q = (pc + 3, ls, r)) := by
  unfold br at h
  split at h
  · obtain ⟨t, h1, h2⟩ := Option.map_eq_some_iff.mp h
    obtain ⟨h3, h4⟩ := jmp_some h1
    exact Or.inl ⟨by assumption, t, h3, h4, h2.symm⟩
  · rename_i hc; cases h; exact Or.inr ⟨by simpa using hc, rfl⟩
section X
variable {tb : Tables} [Ours tb] {e : Env} {below : List Frame} {T target : State} {m : MethodId} {c : Code}
set_option maxHeartbeats 4000000 in
theorem xstep_sound (h : At T m c below) (hx : tb.exec = Jvm.exec) (f : Nat → Nat) {ins : Instr} {len pc : Nat} {ls : List Slot} {st : List Value} {q : Nat × List Slot × List Value}
    (hd : decode c.code pc = .ok (ins, len)) (hs : xstep ins len pc ls st = some q) (hr : Steps tb e below (T.setTop (fr f m q.1 q.2.1 q.2.2)) target) : Steps tb e below (T.setTop (fr f m pc ls st)) target := by
  unfold xstep at hs
  split at hs
  · obtain ⟨rfl, hs⟩ := chk_some hs; obtain ⟨v, h1, h2, rfl⟩ := ldV_some hs
    exact XS.aloadN h hx rfl hd (loc_get h1) (by rw [ren_isRef]; exact h2) hr
  · obtain ⟨rfl, hs⟩ := chk_some hs; obtain ⟨v, h1, h2, rfl⟩ := ldV_some hs
    exact XS.aload h hx rfl hd (loc_get h1) (by rw [ren_isRef]; exact h2) hr
  · obtain ⟨rfl, hs⟩ := chk_some hs; obtain ⟨v, h1, h2, rfl⟩ := ldV_some hs; obtain ⟨x, rfl⟩ := isI_int h2
    exact XS.iloadN h hx rfl hd (loc_get (f := f) h1) hr
  · obtain ⟨rfl, hs⟩ := chk_some hs; obtain ⟨v, h1, h2, rfl⟩ := ldV_some hs; obtain ⟨x, rfl⟩ := isI_int h2
    exact XS.iload h hx rfl hd (loc_get (f := f) h1) hr
  · obtain ⟨rfl, hs⟩ := chk_some hs; obtain ⟨v, h1, h2, rfl⟩ := ldV_some hs; obtain ⟨x, rfl⟩ := isL_long h2
    exact XT.lloadN h hx rfl hd (loc_get (f := f) h1) hr
  · obtain ⟨rfl, hs⟩ := chk_some hs; obtain ⟨v, h1, h2, rfl⟩ := ldV_some hs; obtain ⟨x, rfl⟩ := isL_long h2
    exact XT.lload h hx rfl hd (loc_get (f := f) h1) hr
  · obtain ⟨rfl, hs⟩ := chk_some hs; obtain ⟨v, r, l', rfl, h2, h3, rfl⟩ := stV_some hs
    exact XS.astoreN h hx rfl hd rfl (by rw [ren_isRef]; exact h2) (stl_ren h3) hr
  · obtain ⟨rfl, hs⟩ := chk_some hs; obtain ⟨v, r, l', rfl, h2, h3, rfl⟩ := stV_some hs
    exact XS.astore h hx rfl hd rfl (by rw [ren_isRef]; exact h2) (stl_ren h3) hr
  · obtain ⟨rfl, hs⟩ := chk_some hs; obtain ⟨v, r, l', rfl, h2, h3, rfl⟩ := stV_some hs; obtain ⟨x, rfl⟩ := isI_int h2
    exact XS.istoreN h hx rfl hd rfl (stl_ren (f := f) h3) hr
  · obtain ⟨rfl, hs⟩ := chk_some hs; obtain ⟨v, r, l', rfl, h2, h3, rfl⟩ := stV_some hs; obtain ⟨x, rfl⟩ := isI_int h2
    exact XS.istore h hx rfl hd rfl (stl_ren (f := f) h3) hr
  · obtain ⟨rfl, hs⟩ := chk_some hs; obtain ⟨v, r, l', rfl, h2, h3, rfl⟩ := stV_some hs; obtain ⟨x, rfl⟩ := isL_long h2
    exact XT.lstoreN h hx rfl hd rfl (stl_ren (f := f) h3) hr
  · obtain ⟨rfl, hs⟩ := chk_some hs; obtain ⟨v, r, l', rfl, h2, h3, rfl⟩ := stV_some hs; obtain ⟨x, rfl⟩ := isL_long h2
    exact XT.lstore h hx rfl hd rfl (stl_ren (f := f) h3) hr
  · obtain ⟨rfl, hs⟩ := chk_some hs; cases hs
    exact XS.iconst h hx rfl hd hr
  · obtain ⟨rfl, hs⟩ := chk_some hs; cases hs
    exact XS.bipush h hx rfl hd hr
  · obtain ⟨rfl, hs⟩ := chk_some hs; cases hs
    exact XS.sipush h hx rfl hd hr
  · obtain ⟨rfl, hs⟩ := chk_some hs; cases hs
    exact XT.lconst h hx rfl hd hr
  · obtain ⟨rfl, hs⟩ := chk_some hs; obtain ⟨x, y, r, rfl, rfl⟩ := b2_some hs
    exact XS.iadd h hx rfl hd rfl hr
  · obtain ⟨rfl, hs⟩ := chk_some hs; obtain ⟨x, y, r, rfl, rfl⟩ := b2_some hs
    exact XS.isub h hx rfl hd rfl hr
  · obtain ⟨rfl, hs⟩ := chk_some hs; obtain ⟨x, y, r, rfl, rfl⟩ := b2_some hs
    exact XS.imul h hx rfl hd rfl hr
  · obtain ⟨rfl, hs⟩ := chk_some hs; obtain ⟨x, y, r, rfl, rfl⟩ := b2_some hs
    exact XS.iand h hx rfl hd rfl hr
  · obtain ⟨rfl, hs⟩ := chk_some hs; obtain ⟨x, y, r, rfl, rfl⟩ := b2_some hs
    exact XT.ior h hx rfl hd rfl hr
  · obtain ⟨rfl, hs⟩ := chk_some hs; obtain ⟨x, y, r, rfl, rfl⟩ := b2_some hs
    exact XT.ixor h hx rfl hd rfl hr
  · obtain ⟨rfl, hs⟩ := chk_some hs; obtain ⟨x, y, r, rfl, rfl⟩ := b2_some hs
    exact XT.ishl h hx rfl hd rfl hr
  · obtain ⟨rfl, hs⟩ := chk_some hs; obtain ⟨x, y, r, rfl, rfl⟩ := b2_some hs
    exact XT.ishr h hx rfl hd rfl hr
  · obtain ⟨rfl, hs⟩ := chk_some hs; obtain ⟨x, y, r, rfl, rfl⟩ := b2_some hs
    exact XT.iushr h hx rfl hd rfl hr
  · obtain ⟨rfl, hs⟩ := chk_some hs; obtain ⟨x, y, r, rfl, h2, rfl⟩ := d2_some hs
    exact XS.idiv h hx rfl hd rfl h2 hr
  · obtain ⟨rfl, hs⟩ := chk_some hs; obtain ⟨x, y, r, rfl, h2, rfl⟩ := d2_some hs
    refine XS.irem h hx rfl hd rfl h2 ?_
    have q : x - x / y * y = x % y := irem_eq_mod x y
    rw [q]; exact hr
  · obtain ⟨rfl, hs⟩ := chk_some hs; obtain ⟨x, r, rfl, rfl⟩ := u1_some hs
    exact XS.ineg h hx rfl hd rfl hr
  · obtain ⟨rfl, hs⟩ := chk_some hs; obtain ⟨x, r, rfl, rfl⟩ := u1_some hs
    exact XT.i2b h hx rfl hd rfl hr
  · obtain ⟨rfl, hs⟩ := chk_some hs; obtain ⟨x, r, rfl, rfl⟩ := u1_some hs
    exact XT.i2c h hx rfl hd rfl hr
  · obtain ⟨rfl, hs⟩ := chk_some hs; obtain ⟨x, y, r, rfl, rfl⟩ := l2_some hs
    exact XT.ladd h hx rfl hd rfl hr
  · obtain ⟨rfl, hs⟩ := chk_some hs; obtain ⟨x, y, r, rfl, rfl⟩ := l2_some hs
    exact XT.lsub h hx rfl hd rfl hr
  · obtain ⟨rfl, hs⟩ := chk_some hs; obtain ⟨x, y, r, rfl, rfl⟩ := l2_some hs
    exact XT.lmul h hx rfl hd rfl hr
  · obtain ⟨rfl, hs⟩ := chk_some hs; obtain ⟨x, y, r, rfl, rfl⟩ := l2_some hs
    exact XT.land h hx rfl hd rfl hr
  · obtain ⟨rfl, hs⟩ := chk_some hs; obtain ⟨x, y, r, rfl, rfl⟩ := l2_some hs
    exact XT.lor h hx rfl hd rfl hr
  · obtain ⟨rfl, hs⟩ := chk_some hs; obtain ⟨x, y, r, rfl, rfl⟩ := l2_some hs
    exact XT.lxor h hx rfl hd rfl hr
  · obtain ⟨rfl, hs⟩ := chk_some hs; obtain ⟨x, y, r, rfl, rfl⟩ := lsh_some hs
    exact XT.lshl h hx rfl hd rfl hr
  · obtain ⟨rfl, hs⟩ := chk_some hs; obtain ⟨x, y, r, rfl, rfl⟩ := lsh_some hs
    exact XT.lshr h hx rfl hd rfl hr
  · obtain ⟨rfl, hs⟩ := chk_some hs; obtain ⟨x, y, r, rfl, rfl⟩ := lsh_some hs
    exact XT.lushr h hx rfl hd rfl hr
  · obtain ⟨rfl, hs⟩ := chk_some hs
    split at hs
    · cases hs; exact XT.lneg h hx rfl hd rfl hr
    · cases hs
  · obtain ⟨rfl, hs⟩ := chk_some hs
    split at hs
    · cases hs; exact XT.i2l h hx rfl hd rfl hr
    · cases hs
  · obtain ⟨rfl, hs⟩ := chk_some hs
    split at hs
    · cases hs; exact XT.l2i h hx rfl hd rfl hr
    · cases hs
  · obtain ⟨rfl, hs⟩ := chk_some hs
    split at hs
    · cases hs; exact XT.lcmp h hx rfl hd rfl hr
    · cases hs
  · obtain ⟨rfl, hs⟩ := chk_some hs
    split at hs
    · rename_i x h1
      obtain ⟨l', h2, rfl⟩ := Option.map_eq_some_iff.mp hs
      exact XS.iinc h hx rfl hd (loc_get (f := f) h1) (stl_ren (f := f) h2) hr
    · cases hs
  · obtain ⟨rfl, hs⟩ := chk_some hs
    split at hs
    · split at hs
      · rename_i hc; cases hs; exact XS.dup h hx rfl hd rfl (by rw [ren_cat]; exact hc) hr
      · cases hs
    · cases hs
  · obtain ⟨rfl, hs⟩ := chk_some hs
    split at hs
    · cases hs; exact XT.dup2L h hx rfl hd rfl hr
    · split at hs
      · rename_i hc; cases hs; exact XT.dup2 h hx rfl hd rfl (by rw [ren_cat]; exact hc.1) (by rw [ren_cat]; exact hc.2) hr
      · cases hs
    · cases hs
  · obtain ⟨rfl, hs⟩ := chk_some hs
    split at hs
    · split at hs
      · rename_i hc; cases hs; exact XT.pop h hx rfl hd rfl (by rw [ren_cat]; exact hc) hr
      · cases hs
    · cases hs
  · obtain ⟨rfl, hs⟩ := chk_some hs
    obtain ⟨t, h1, rfl⟩ := Option.map_eq_some_iff.mp hs
    obtain ⟨h2, h3⟩ := jmp_some h1
    exact XS.goto h hx rfl rfl hd h2 h3 hr
  · obtain ⟨rfl, hs⟩ := chk_some hs
    split at hs
    · rcases br_some hs with ⟨hc, t, h1, h2, rfl⟩ | ⟨hc, rfl⟩
      · exact XS.ifYes h hx rfl rfl hd rfl hc h1 h2 hr
      · exact XS.ifNo h hx rfl hd rfl hc hr
    · cases hs
  · obtain ⟨rfl, hs⟩ := chk_some hs
    split at hs
    · rcases br_some hs with ⟨hc, t, h1, h2, rfl⟩ | ⟨hc, rfl⟩
      · exact XS.icmpYes h hx rfl rfl hd rfl hc h1 h2 hr
      · exact XS.icmpNo h hx rfl hd rfl hc hr
    · cases hs
  · unfold sw at hs
    split at hs
    · split at hs
      · rename_i hc
        obtain ⟨t, h1, rfl⟩ := Option.map_eq_some_iff.mp hs
        obtain ⟨h2, h3⟩ := jmp_some h1
        exact XS.tswOut h hx rfl rfl hd rfl hc h2 h3 hr
      · rename_i hc
        split at hs
        · rename_i o ho
          obtain ⟨t, h1, rfl⟩ := Option.map_eq_some_iff.mp hs
          obtain ⟨h2, h3⟩ := jmp_some h1
          exact XS.tswIn h hx rfl rfl hd rfl hc ho h2 h3 hr
        · cases hs
    · cases hs
  · cases hs
end X
theorem xstep_size {ins : Instr} {len pc : Nat} {ls : List Slot} {st : List Value} {q : Nat × List Slot × List Value} (hs : xstep ins len pc ls st = some q) : q.2.1.length = ls.length := by
  unfold xstep at hs
  split at hs
  all_goals first
    | (obtain ⟨rfl, hs⟩ := chk_some hs; obtain ⟨v, h1, h2, rfl⟩ := ldV_some hs; rfl)
    | (obtain ⟨rfl, hs⟩ := chk_some hs; obtain ⟨v, r, l', rfl, h2, h3, rfl⟩ := stV_some hs; exact stl_size h3)
    | (obtain ⟨rfl, hs⟩ := chk_some hs; cases hs; rfl)
    | (obtain ⟨rfl, hs⟩ := chk_some hs; obtain ⟨x, y, r, rfl, rfl⟩ := b2_some hs; rfl)
    | (obtain ⟨rfl, hs⟩ := chk_some hs; obtain ⟨x, y, r, rfl, h2, rfl⟩ := d2_some hs; rfl)
    | (obtain ⟨rfl, hs⟩ := chk_some hs; obtain ⟨x, r, rfl, rfl⟩ := u1_some hs; rfl)
    | (obtain ⟨rfl, hs⟩ := chk_some hs; obtain ⟨x, y, r, rfl, rfl⟩ := l2_some hs; rfl)
    | (obtain ⟨rfl, hs⟩ := chk_some hs; obtain ⟨x, y, r, rfl, rfl⟩ := lsh_some hs; rfl)
    | (obtain ⟨rfl, hs⟩ := chk_some hs; split at hs <;> first | (cases hs; rfl) | (cases hs; done))
    | (obtain ⟨rfl, hs⟩ := chk_some hs; split at hs <;> first | (obtain ⟨l', h2, rfl⟩ := Option.map_eq_some_iff.mp hs; exact stl_size h2) | (cases hs; done))
    | (obtain ⟨rfl, hs⟩ := chk_some hs; split at hs <;> first | (split at hs <;> first | (cases hs; rfl) | (cases hs; done)) | (cases hs; rfl) | (cases hs; done))
    | (obtain ⟨rfl, hs⟩ := chk_some hs; obtain ⟨t, h1, rfl⟩ := Option.map_eq_some_iff.mp hs; rfl)
    | (obtain ⟨rfl, hs⟩ := chk_some hs; split at hs <;> first | (rcases br_some hs with ⟨hc, t, h1, h2, rfl⟩ | ⟨hc, rfl⟩ <;> rfl) | (cases hs; done))
    | (unfold sw at hs; split at hs <;> first | (cases hs; done) | (split at hs <;> first | (obtain ⟨t, h1, rfl⟩ := Option.map_eq_some_iff.mp hs; rfl) | (split at hs <;> first | (obtain ⟨t, h1, rfl⟩ := Option.map_eq_some_iff.mp hs; rfl) | (cases hs; done))))
    | (cases hs; done)
end Jvm.Own
namespace Jvm.Own
open Sem ClassFile Op Lib Jvm.Stand Jvm.Free Jvm.LawKit Jvm.RoadKit
/-! OWN 4: the heap's steps -/
def adr (k sa n0 i : Nat) : Nat := if i < k then sa else n0 + (i - k)
def SimO (Z : State) (ws : Ws) (f : Nat → Nat) (h : Heap) (a : Addr) : FieldType × List Value → Prop
  | (.object C, vs) => Exa Z h a C ∧ ∀ n t j, fidx ws C n t = some j → ∃ v, vs[j]? = some v ∧ Fld Z h a C n t (ren f v)
  | (.array ty, vs) => ∃ c : Cell, Arr Z h a c ty ∧ c.slots = (vs.map (ren f)).toArray
  | _ => False
def Sim (Z : State) (ws : Ws) (k sa n0 : Nat) (H : AHeap) (h : Heap) : Prop :=
  h.size = n0 + (H.length - k) ∧ k ≤ H.length ∧ k ≤ 1 ∧ (1 ≤ k → sa < n0) ∧ ∀ i o, H[i]? = some o → SimO Z ws (adr k sa n0) h (adr k sa n0 i) o
def cost (ws : Ws) : FieldType × List Value → Nat
  | (.object C, _) => (rInst ws C).getD 0
  | (_, vs) => vs.length
def tot (ws : Ws) (H : AHeap) : Nat := (H.map (cost ws)).sum
theorem adr_inj {k sa n0 i j : Nat} (hk : k ≤ 1) (hs : 1 ≤ k → sa < n0) (e : adr k sa n0 i = adr k sa n0 j) : i = j := by
  unfold adr at e; split at e <;> split at e <;> omega
theorem adr_ge {k sa n0 a : Nat} (h : k ≤ a) : n0 ≤ adr k sa n0 a := by
  unfold adr; rw [if_neg (by omega)]; omega
theorem tot_app (ws : Ws) (H : AHeap) (o : FieldType × List Value) : tot ws (H ++ [o]) = tot ws H + cost ws o := by simp [tot]
theorem tot_set {ws : Ws} : ∀ {H : AHeap} {a : Nat} {o o' : FieldType × List Value}, H[a]? = some o → cost ws o' = cost ws o → tot ws (H.set a o') = tot ws H
  | [], _, _, _, h, _ => by cases h
  | x :: r, 0, o, o', h, e => by
    simp only [List.getElem?_cons_zero, Option.some.injEq] at h; subst h
    simp [tot, e]
  | x :: r, a + 1, o, o', h, e => by
    have := tot_set (ws := ws) (H := r) (a := a) (o := o) (o' := o') (by simpa using h) e
    simp only [tot, List.set_cons_succ, List.map_cons, List.sum_cons] at this ⊢
    rw [this]
theorem ren_dflt (f : Nat → Nat) (ty : FieldType) : ren f (defaultValue ty) = defaultValue ty := by cases ty <;> rfl
section Facts
variable {Z : State} {ws : Ws} {f : Nat → Nat} {h h' : Heap} {a b : Addr} {o : FieldType × List Value} {sl : Nat} {v : Value}
theorem SimO.ext (E : Ext h h') (S : SimO Z ws f h a o) : SimO Z ws f h' a o := by
  unfold SimO at S ⊢
  split at S
  · exact ⟨S.1.ext E, fun n t j q => by obtain ⟨v, h1, h2⟩ := S.2 n t j q; exact ⟨v, h1, h2.ext E⟩⟩
  · obtain ⟨c, h1, h2⟩ := S; exact ⟨c, h1.ext E, h2⟩
  · exact S.elim
theorem SimO.other (W : Wr h h' b sl v) (ne : a ≠ b) (S : SimO Z ws f h a o) : SimO Z ws f h' a o := by
  unfold SimO at S ⊢
  split at S
  · exact ⟨S.1.wr W, fun n t j q => by obtain ⟨v, h1, h2⟩ := S.2 n t j q; exact ⟨v, h1, h2.other W (Or.inl ne)⟩⟩
  · obtain ⟨c, h1, h2⟩ := S; exact ⟨c, h1.other W ne, h2⟩
  · exact S.elim
theorem Sim.push {k sa n0 : Nat} {H : AHeap} (S : Sim Z ws k sa n0 H h) (E : Ext h h') (hz : h'.size = h.size + 1) (O : SimO Z ws (adr k sa n0) h' h.size o) : Sim Z ws k sa n0 (H ++ [o]) h' := by
  obtain ⟨h1, h2, h3, h4, h5⟩ := S
  refine ⟨by rw [hz, h1, List.length_append, List.length_singleton]; omega, by rw [List.length_append]; omega, h3, h4, fun i o' q => ?_⟩
  rcases Nat.lt_trichotomy i H.length with g | g | g
  · rw [List.getElem?_append_left g] at q; exact (h5 i o' q).ext E
  · subst g
    rw [List.getElem?_append_right (Nat.le_refl _), Nat.sub_self] at q
    cases q
    have e : adr k sa n0 H.length = h.size := by unfold adr; rw [if_neg (by omega), h1]
    rw [e]; exact O
  · rw [List.getElem?_eq_none (by simp; omega)] at q; cases q
theorem Sim.next {k sa n0 : Nat} {H : AHeap} (S : Sim Z ws k sa n0 H h) : h.size = adr k sa n0 H.length := by
  obtain ⟨h1, h2, -⟩ := S
  unfold adr; rw [if_neg (by omega), h1]
theorem Wr.upd {k sa n0 i : Nat} {H : AHeap} {o' : FieldType × List Value} (S : Sim Z ws k sa n0 H h) (W : Wr h h' (adr k sa n0 i) sl v) (O : SimO Z ws (adr k sa n0) h' (adr k sa n0 i) o') : Sim Z ws k sa n0 (H.set i o') h' := by
  obtain ⟨h1, h2, h3, h4, h5⟩ := S
  refine ⟨by rw [W.size, h1, List.length_set], by rw [List.length_set]; exact h2, h3, h4, fun j q hq => ?_⟩
  by_cases e : i = j
  · subst e
    rw [List.getElem?_set_self' ] at hq
    cases hi : H[i]? with
    | none => rw [hi] at hq; cases hq
    | some x => rw [hi] at hq; cases hq; exact O
  · rw [List.getElem?_set_ne e] at hq
    exact (h5 j q hq).other W fun g => e (adr_inj h3 h4 g).symm
end Facts
theorem putv_ok {ty : FieldType} {v v' : Value} (f : Nat → Nat) (h : putv ty v = some v') : narrow ty (ren f v) = ren f v' ∧ fits ty (ren f v') = true := by
  unfold putv at h
  split at h
  · cases h; exact ⟨rfl, rfl⟩
  · cases h; exact ⟨rfl, fits_nar_bool _⟩
  · cases h; exact ⟨rfl, fits_nar_byte _⟩
  · cases h; exact ⟨rfl, fits_nar_char _⟩
  · cases h; exact ⟨rfl, fits_nar_short _⟩
  · cases h; exact ⟨rfl, rfl⟩
  · cases h; exact ⟨rfl, rfl⟩
  · cases h
theorem size_set (c : Cell) (j : Nat) (v : Value) (f : Nat → Nat) {vs : List Value} {v' : Value} (e : c.slots = (vs.map (ren f)).toArray) (q : v = ren f v') : (c.setSlot j v).slots = ((vs.set j v').map (ren f)).toArray := by
  subst q
  show c.slots.setIfInBounds j (ren f v') = _
  rw [e, List.setIfInBounds_toArray, List.map_set]
section H
variable {p : Program} {l : Launch} {e : Env} {R : Room} {s : State} {m : MethodId} {args : Array Value} {below : List Frame} {meth : Method} {c : Code} {T : State} {locs : List Loc} {cells slots : Nat}
  {Z : State} {a0 : Array Value} {ws : Ws} {k sa n0 : Nat} {y : MethodName} {pc : Nat} {ls : List Slot} {st : List Value} {H : AHeap}
/-- the point behind one step -/
def Beh (p : Program) (l : Launch) (e : Env) (R : Room) (s : State) (m : MethodId) (args : Array Value) (below : List Frame) (meth : Method) (c : Code) (T : State) (Z : State) (ws : Ws) (k sa n0 cells slots : Nat) (H : AHeap) (g : JFrame) (pc' : Nat) (ls' : List Slot) (st' : List Value) (H' : AHeap) : Prop :=
  ∃ T' locs', Stand p l e R s m args below meth c T' locs' (cells + (H'.length - H.length)) (slots + (tot ws H' - tot ws H)) ∧ Sim Z ws k sa n0 H' T'.heap ∧ Fr n0 locs' ∧
    ∀ target, Steps p.tables e below (T'.setTop (fr (adr k sa n0) m pc' ls' st')) target → Steps p.tables e below (T.setTop g) target
theorem Beh.stay {g : JFrame} {pc' : Nat} {st' : List Value} {T' : State} (X : Stand p l e R s m args below meth c T' locs cells slots) (S : Sim Z ws k sa n0 H T'.heap) (N : Fr n0 locs)
    (h : ∀ target, Steps p.tables e below (T'.setTop (fr (adr k sa n0) m pc' ls st')) target → Steps p.tables e below (T.setTop g) target) : Beh p l e R s m args below meth c T Z ws k sa n0 cells slots H g pc' ls st' H :=
  ⟨T', locs, by rw [Nat.sub_self, Nat.sub_self]; exact X, S, N, h⟩
theorem hGet_sound (hw : ∀ d ∈ ws, d.before a0 Z = true) (X : Stand p l e R s m args below meth c T locs cells slots) (hx : p.tables.exec = Jvm.exec) (hZ : Z.Warmed39 s.vm) (hown : s.vm.findClass y.cls = some m.cls)
    {i : Nat} (hd : decode c.code pc = .ok (.getfield i, 3)) {q : Nat × List Value × AHeap} (hs : hGet ws y.cls i pc H st = some q) (S : Sim Z ws k sa n0 H T.heap) (N : Fr n0 locs) :
    Beh p l e R s m args below meth c T Z ws k sa n0 cells slots H (fr (adr k sa n0) m pc ls st) q.1 ls q.2.1 q.2.2 := by
  unfold hGet at hs
  split at hs
  · rename_i a r
    split at hs
    · rename_i C j C' vs q1 q2
      split at hs
      · rename_i hC; subst hC
        obtain ⟨v, hv, rfl⟩ := Option.map_eq_some_iff.mp hs
        obtain ⟨n, t, r1, r2⟩ := gfR_some q1
        obtain ⟨v', hv', F⟩ := (S.2.2.2.2 a _ q2).2 n t j r2
        cases hv.symm.trans hv'
        obtain ⟨T', X', e', st'⟩ := getF X hx hZ hown (host := "") (Or.inl (hw _ (rFld_mem r1))) Via.refl rfl F (g := fr (adr k sa n0) m pc ls (.ref a :: r)) rfl rfl hd
        exact Beh.stay X' (by rw [e']; exact S) N st'
      · cases hs
    · cases hs
  · cases hs
theorem hPut_sound (hw : ∀ d ∈ ws, d.before a0 Z = true) (X : Stand p l e R s m args below meth c T locs cells slots) (hx : p.tables.exec = Jvm.exec) (hZ : Z.Warmed39 s.vm) (hown : s.vm.findClass y.cls = some m.cls) (hnm : meth.name = y.name)
    {i : Nat} (hd : decode c.code pc = .ok (.putfield i, 3)) {q : Nat × List Value × AHeap} (hs : hPut ws k y.cls y.name i pc H st = some q) (S : Sim Z ws k sa n0 H T.heap) (N : Fr n0 locs) :
    Beh p l e R s m args below meth c T Z ws k sa n0 cells slots H (fr (adr k sa n0) m pc ls st) q.1 ls q.2.1 q.2.2 := by
  unfold hPut at hs
  split at hs
  · rename_i v a r
    split at hs
    · rename_i C j ty C' vs q1 q2
      split at hs
      · rename_i hC; obtain ⟨rfl, hk, hj⟩ := hC
        obtain ⟨v', hv, rfl⟩ := Option.map_eq_some_iff.mp hs
        obtain ⟨n, t, r1, r2, r3, r4, ⟨ki, r5⟩, r6⟩ := pfR_some q1
        have SO := S.2.2.2.2 a _ q2
        obtain ⟨w, hw', F⟩ := SO.2 n t j r2
        obtain ⟨g1, g2⟩ := putv_ok (adr k sa n0) hv
        obtain ⟨T', h', X', e', W, st'⟩ := putFN X hx hZ hown (hw _ (rFld_mem r1)) Via.refl rfl F SO.1 (r4.imp (fun q => hw _ q) fun q => ⟨hw _ q.1, q.2.1, hnm.trans q.2.2⟩) (hw _ r5) r3 g1 g2 (g := fr (adr k sa n0) m pc ls (v :: .ref a :: r)) rfl rfl hd
        have LL : ∀ {n' t' : String}, (n', t') ∈ olay ws C → Laid Z a0 C C n' t' := fun q => (lay_mem q).1.imp (fun q => hw _ q) (fun q => hw _ q)
        have O' : SimO Z ws (adr k sa n0) h' (adr k sa n0 a) (.object C, vs.set j v') := by
          refine ⟨SO.1.wr W, fun n' t' j' q' => ?_⟩
          obtain ⟨u, hu, F'⟩ := SO.2 n' t' j' q'
          by_cases ej : j = j'
          · subst ej
            obtain ⟨rfl, rfl⟩ := fidx_inj r2 q'
            exact ⟨v', by rw [List.getElem?_set_self hj], F.same W⟩
          · refine ⟨u, by rw [List.getElem?_set_ne ej]; exact hu, F'.other W (Or.inr ?_)⟩
            obtain ⟨-, ty', p'⟩ := lay_mem (fidx_mem q')
            refine slot_ne (LL (fidx_mem q')) (LL (fidx_mem r2)) (fun en => ?_) p' r3
            rcases r6 n' t' (fidx_mem q') with g | g
            · exact g en
            · subst en g; rw [r2] at q'; exact ej (Option.some.inj q')
        refine ⟨T', _, ?_, by rw [e']; exact Wr.upd S W O', Fr.snoc X' N (adr_ge hk), st'⟩
        show Stand p l e R s m args below meth c T' _ (cells + ((H.set a (.object C, vs.set j v')).length - H.length)) (slots + (tot ws (H.set a (.object C, vs.set j v')) - tot ws H))
        rw [List.length_set, tot_set (o := (.object C, vs)) (o' := (.object C, vs.set j v')) q2 rfl, Nat.sub_self, Nat.sub_self]
        exact X'
      · cases hs
    · cases hs
  · cases hs
theorem hNew_sound (hw : ∀ d ∈ ws, d.before a0 Z = true) (X : Stand p l e R s m args below meth c T locs cells slots) (hx : p.tables.exec = Jvm.exec) (hZ : Z.Warmed39 s.vm) (hown : s.vm.findClass y.cls = some m.cls)
    {i : Nat} (hd : decode c.code pc = .ok (.new i, 3)) {q : Nat × List Value × AHeap} (hs : hNew ws y.cls i pc H st = some q) (S : Sim Z ws k sa n0 H T.heap) (N : Fr n0 locs)
    (hc : cells + (q.2.2.length - H.length) ≤ R.cells) (hl : slots + (tot ws q.2.2 - tot ws H) ≤ R.slots) (hz0 : T.heap.size = s.heap.size + cells) :
    Beh p l e R s m args below meth c T Z ws k sa n0 cells slots H (fr (adr k sa n0) m pc ls st) q.1 ls q.2.1 q.2.2 := by
  unfold hNew at hs
  split at hs
  · rename_i C q1
    split at hs
    · rename_i g; cases hs
      obtain ⟨ki, hki⟩ := Option.isSome_iff_exists.mp g.1
      have ec : (H ++ [(FieldType.object C, (olay ws C).map dflt)]).length - H.length = 1 := by simp
      have es : tot ws (H ++ [(FieldType.object C, (olay ws C).map dflt)]) - tot ws H = ki := by
        rw [tot_app]; simp [cost, hki]
      dsimp only at hc hl ⊢
      rw [ec] at hc; rw [es] at hl
      have hz := S.next
      obtain ⟨T', h', X', e', E, A, D, -, st'⟩ := newO X hx hZ hown (hw _ (rCls_mem q1)) (hw _ (rInst_mem hki)) (hw _ (hasInit_mem g.2)) rfl (g := fr (adr k sa n0) m pc ls st) rfl hd hc hl
      have hz' : h'.size = T.heap.size + 1 := by
        have u1 := X'.heapSize
        have a1 : (T.heap.size : Nat) < h'.size := A.lt
        rw [e'] at u1
        omega
      refine ⟨T', locs, by rw [ec, es]; exact X', ?_, N, ?_⟩
      · rw [e']
        refine S.push E hz' ⟨A, fun n t j q => ?_⟩
        have hm := fidx_mem q
        obtain ⟨q2, ty, q3⟩ := lay_mem hm
        refine ⟨dflt (n, t), by rw [List.getElem?_map, idx_get q]; rfl, ?_⟩
        have F := D (O := C) (nm := n) (d := t) (q2.imp (fun q => hw _ q) (fun q => hw _ q)) q3
        have e3 : ren (adr k sa n0) (dflt (n, t)) = defaultValue ty := by simp only [dflt, q3, ren_dflt]
        rw [e3]; exact F
      · intro target ht
        rw [hz] at st'
        exact st' target ht
    · cases hs
  · cases hs
theorem hNewA_sound (hw : ∀ d ∈ ws, d.before a0 Z = true) (X : Stand p l e R s m args below meth c T locs cells slots) (hx : p.tables.exec = Jvm.exec) (hZ : Z.Warmed39 s.vm)
    {aty : ArrayType} (hd : decode c.code pc = .ok (.newarray aty, 2)) {q : Nat × List Value × AHeap} (hs : hNewA ws aty pc H st = some q) (S : Sim Z ws k sa n0 H T.heap) (N : Fr n0 locs)
    (hc : cells + (q.2.2.length - H.length) ≤ R.cells) (hl : slots + (tot ws q.2.2 - tot ws H) ≤ R.slots) (hz0 : T.heap.size = s.heap.size + cells) :
    Beh p l e R s m args below meth c T Z ws k sa n0 cells slots H (fr (adr k sa n0) m pc ls st) q.1 ls q.2.1 q.2.2 := by
  unfold hNewA at hs
  split at hs
  · rename_i n r
    split at hs
    · rename_i g; cases hs
      obtain ⟨g1, g2, g3⟩ := g
      have ec : (H ++ [(FieldType.array (newarray.typeOf aty), List.replicate n.toNatClampNeg (defaultValue (newarray.typeOf aty)))]).length - H.length = 1 := by simp
      have es : tot ws (H ++ [(FieldType.array (newarray.typeOf aty), List.replicate n.toNatClampNeg (defaultValue (newarray.typeOf aty)))]) - tot ws H = n.toNatClampNeg := by
        rw [tot_app]; simp [cost]
      dsimp only at hc hl ⊢
      rw [ec] at hc; rw [es] at hl
      have hz := S.next
      obtain ⟨T', h', cA, X', e', E, A, st'⟩ := newP X hx hZ (hw _ (hasArr_mem g1)) rfl (g := fr (adr k sa n0) m pc ls (.int n :: r)) rfl hd rfl g2 (cap := n.toNatClampNeg) (Nat.le_refl _) g3 hc hl
      have hz' : h'.size = T.heap.size + 1 := by
        have u1 := X'.heapSize
        have a1 : (T.heap.size : Nat) < h'.size := A.lt
        rw [e'] at u1
        omega
      refine ⟨T', locs, by rw [ec, es]; exact X', ?_, N, ?_⟩
      · rw [e']
        refine S.push E hz' ⟨_, A, ?_⟩
        simp [newA, ren_dflt]
      · intro target ht
        rw [hz] at st'
        exact st' target ht
    · cases hs
  · cases hs
theorem hLd_some {ok : FieldType → Bool} {q : Nat × List Value × AHeap} (hs : hLd ok pc H st = some q) : ∃ j a r ty vs v, st = .int j :: .ref a :: r ∧ H[a]? = some (.array ty, vs) ∧ ok ty = true ∧ ¬ j < 0 ∧ vs[j.toNatClampNeg]? = some v ∧ q = (pc + 1, v :: r, H) := by
  unfold hLd at hs
  split at hs
  · split at hs
    · split at hs
      · rename_i g
        obtain ⟨v, h1, h2⟩ := Option.map_eq_some_iff.mp hs
        exact ⟨_, _, _, _, _, v, rfl, by assumption, g.1, g.2, h1, h2.symm⟩
      · cases hs
    · cases hs
  · cases hs
theorem hSt_some {ok : FieldType → Bool} {q : Nat × List Value × AHeap} (hs : hSt ok k pc H st = some q) : ∃ v j a r ty vs v', st = v :: .int j :: .ref a :: r ∧ H[a]? = some (.array ty, vs) ∧ ok ty = true ∧ k ≤ a ∧ ¬ j < 0 ∧ j.toNatClampNeg < vs.length ∧ putv ty v = some v' ∧ q = (pc + 1, r, H.set a (.array ty, vs.set j.toNatClampNeg v')) := by
  unfold hSt at hs
  split at hs
  · split at hs
    · split at hs
      · rename_i g
        obtain ⟨v, h1, h2⟩ := Option.map_eq_some_iff.mp hs
        exact ⟨_, _, _, _, _, _, v, rfl, by assumption, g.1, g.2.1, g.2.2.1, g.2.2.2, h1, h2.symm⟩
      · cases hs
    · cases hs
  · cases hs
theorem hLen_some {q : Nat × List Value × AHeap} (hs : hLen pc H st = some q) : ∃ a r ty vs, st = .ref a :: r ∧ H[a]? = some (.array ty, vs) ∧ q = (pc + 1, .int vs.length.toInt32 :: r, H) := by
  unfold hLen at hs
  split at hs
  · split at hs
    · cases hs; exact ⟨_, _, _, _, rfl, by assumption, rfl⟩
    · cases hs
  · cases hs
/-- behind a store into an array -/
theorem st_beh {T' : State} {h' : Heap} {a j : Nat} {ty : FieldType} {vs : List Value} {v' : Value} {r : List Value} {g : JFrame} (X' : Stand p l e R s m args below meth c T' (locs ++ [⟨adr k sa n0 a, j⟩]) cells slots) (e' : T'.heap = h') (W : Wr T.heap h' (adr k sa n0 a) j (ren (adr k sa n0) v'))
    (S : Sim Z ws k sa n0 H T.heap) (N : Fr n0 locs) (q2 : H[a]? = some (.array ty, vs)) (hk : k ≤ a)
    (st' : ∀ target, Steps p.tables e below (T'.setTop (fr (adr k sa n0) m (pc + 1) ls r)) target → Steps p.tables e below (T.setTop g) target) :
    Beh p l e R s m args below meth c T Z ws k sa n0 cells slots H g (pc + 1) ls r (H.set a (.array ty, vs.set j v')) := by
  obtain ⟨cl, A, es⟩ := S.2.2.2.2 a _ q2
  refine ⟨T', _, ?_, by rw [e']; exact Wr.upd S W ⟨_, A.same W, size_set cl j _ _ es rfl⟩, Fr.snoc X' N (adr_ge hk), st'⟩
  rw [List.length_set, tot_set (o := (.array ty, vs)) (o' := (.array ty, vs.set j v')) q2 (by simp [cost]), Nat.sub_self, Nat.sub_self]
  exact X'
set_option maxHeartbeats 1000000 in
theorem hstep_sound (hw : ∀ d ∈ ws, d.before a0 Z = true) (X : Stand p l e R s m args below meth c T locs cells slots) (hx : p.tables.exec = Jvm.exec) (hZ : Z.Warmed39 s.vm) (hown : s.vm.findClass y.cls = some m.cls) (hnm : meth.name = y.name)
    {ins : Instr} {len : Nat} (hd : decode c.code pc = .ok (ins, len)) {q : Nat × List Value × AHeap} (hs : hstep ws k y ins len pc st H = some q) (S : Sim Z ws k sa n0 H T.heap) (N : Fr n0 locs)
    (hc : cells + (q.2.2.length - H.length) ≤ R.cells) (hl : slots + (tot ws q.2.2 - tot ws H) ≤ R.slots) (hz0 : T.heap.size = s.heap.size + cells) :
    Beh p l e R s m args below meth c T Z ws k sa n0 cells slots H (fr (adr k sa n0) m pc ls st) q.1 ls q.2.1 q.2.2 := by
  unfold hstep at hs
  split at hs
  · obtain ⟨rfl, hs⟩ := chk_some hs
    exact hGet_sound hw X hx hZ hown hd hs S N
  · obtain ⟨rfl, hs⟩ := chk_some hs
    exact hPut_sound hw X hx hZ hown hnm hd hs S N
  · obtain ⟨rfl, hs⟩ := chk_some hs
    exact hNew_sound hw X hx hZ hown hd hs S N hc hl hz0
  · obtain ⟨rfl, hs⟩ := chk_some hs
    exact hNewA_sound hw X hx hZ hd hs S N hc hl hz0
  · obtain ⟨rfl, hs⟩ := chk_some hs
    obtain ⟨j, a, r, ty, vs, v, rfl, q2, ho, hj, hv, rfl⟩ := hLd_some hs
    obtain rfl : ty = _ := of_decide_eq_true ho
    obtain ⟨cl, A, es⟩ := S.2.2.2.2 a _ q2
    have hlt := (List.getElem?_eq_some_iff.mp hv).1
    exact Beh.stay X S N fun target ht => X.iaload hx (j := j) (v := ren (adr k sa n0) v) A.1 (State.isArrayOf_alike hZ.alike A.2.1) A.2.2 (fun g => g.elim hj fun g => by rw [es] at g; simp at g; omega) (by rw [es, List.getElem?_toArray, List.getElem?_map, hv]; rfl) (g := fr (adr k sa n0) m pc ls (.int j :: .ref a :: r)) rfl rfl hd target ht
  · obtain ⟨rfl, hs⟩ := chk_some hs
    obtain ⟨j, a, r, ty, vs, v, rfl, q2, ho, hj, hv, rfl⟩ := hLd_some hs
    obtain rfl : ty = _ := of_decide_eq_true ho
    obtain ⟨cl, A, es⟩ := S.2.2.2.2 a _ q2
    have hlt := (List.getElem?_eq_some_iff.mp hv).1
    exact Beh.stay X S N fun target ht => X.caload hx (j := j) (v := ren (adr k sa n0) v) A.1 (State.isArrayOf_alike hZ.alike A.2.1) A.2.2 (fun g => g.elim hj fun g => by rw [es] at g; simp at g; omega) (by rw [es, List.getElem?_toArray, List.getElem?_map, hv]; rfl) (g := fr (adr k sa n0) m pc ls (.int j :: .ref a :: r)) rfl rfl hd target ht
  · obtain ⟨rfl, hs⟩ := chk_some hs
    obtain ⟨j, a, r, ty, vs, v, rfl, q2, ho, hj, hv, rfl⟩ := hLd_some hs
    obtain rfl : ty = _ := of_decide_eq_true ho
    obtain ⟨cl, A, es⟩ := S.2.2.2.2 a _ q2
    have hlt := (List.getElem?_eq_some_iff.mp hv).1
    exact Beh.stay X S N fun target ht => X.laload hx (j := j) (v := ren (adr k sa n0) v) A.1 (State.isArrayOf_alike hZ.alike A.2.1) A.2.2 (fun g => g.elim hj fun g => by rw [es] at g; simp at g; omega) (by rw [es, List.getElem?_toArray, List.getElem?_map, hv]; rfl) (g := fr (adr k sa n0) m pc ls (.int j :: .ref a :: r)) rfl rfl hd target ht
  · obtain ⟨rfl, hs⟩ := chk_some hs
    obtain ⟨j, a, r, ty, vs, v, rfl, q2, ho, hj, hv, rfl⟩ := hLd_some hs
    obtain ⟨cl, A, es⟩ := S.2.2.2.2 a _ q2
    have hlt := (List.getElem?_eq_some_iff.mp hv).1
    simp only [okB, Bool.or_eq_true, decide_eq_true_eq] at ho
    rcases ho with rfl | rfl
    · exact Beh.stay X S N fun target ht => X.baloadBytes hx (j := j) (v := ren (adr k sa n0) v) A.1 (State.isArrayOf_alike hZ.alike A.2.1) A.2.2 (fun g => g.elim hj fun g => by rw [es] at g; simp at g; omega) (by rw [es, List.getElem?_toArray, List.getElem?_map, hv]; rfl) (g := fr (adr k sa n0) m pc ls (.int j :: .ref a :: r)) rfl rfl hd target ht
    · exact Beh.stay X S N fun target ht => X.baloadBooleans hx (j := j) (v := ren (adr k sa n0) v) A.1 (State.isArrayOf_alike hZ.alike A.2.1) A.2.2 (fun g => g.elim hj fun g => by rw [es] at g; simp at g; omega) (by rw [es, List.getElem?_toArray, List.getElem?_map, hv]; rfl) (g := fr (adr k sa n0) m pc ls (.int j :: .ref a :: r)) rfl rfl hd target ht
  · obtain ⟨rfl, hs⟩ := chk_some hs
    obtain ⟨v, j, a, r, ty, vs, v', rfl, q2, ho, hk, hj, hlt, hv, rfl⟩ := hSt_some hs
    obtain rfl : ty = _ := of_decide_eq_true ho
    obtain ⟨cl, A, es⟩ := S.2.2.2.2 a _ q2
    cases v <;> simp only [putv, Option.some.injEq, reduceCtorEq] at hv
    subst hv
    obtain ⟨T', h', X', e', W, st'⟩ := stI X hx hZ rfl A (j := j) (fun g => g.elim hj fun g => by rw [es] at g; simp at g; omega) (g := fr (adr k sa n0) m pc ls (.int _ :: .int j :: .ref a :: r)) rfl rfl hd
    exact st_beh X' e' W S N q2 hk st'
  · obtain ⟨rfl, hs⟩ := chk_some hs
    obtain ⟨v, j, a, r, ty, vs, v', rfl, q2, ho, hk, hj, hlt, hv, rfl⟩ := hSt_some hs
    obtain rfl : ty = _ := of_decide_eq_true ho
    obtain ⟨cl, A, es⟩ := S.2.2.2.2 a _ q2
    cases v <;> simp only [putv, Option.some.injEq, reduceCtorEq] at hv
    subst hv
    obtain ⟨T', h', X', e', W, st'⟩ := stC X hx hZ rfl A (j := j) (fun g => g.elim hj fun g => by rw [es] at g; simp at g; omega) (g := fr (adr k sa n0) m pc ls (.int _ :: .int j :: .ref a :: r)) rfl rfl hd
    exact st_beh X' e' W S N q2 hk st'
  · obtain ⟨rfl, hs⟩ := chk_some hs
    obtain ⟨v, j, a, r, ty, vs, v', rfl, q2, ho, hk, hj, hlt, hv, rfl⟩ := hSt_some hs
    obtain rfl : ty = _ := of_decide_eq_true ho
    obtain ⟨cl, A, es⟩ := S.2.2.2.2 a _ q2
    cases v <;> simp only [putv, Option.some.injEq, reduceCtorEq] at hv
    subst hv
    obtain ⟨T', h', X', e', W, st'⟩ := stJ X hx hZ rfl A (j := j) (fun g => g.elim hj fun g => by rw [es] at g; simp at g; omega) (g := fr (adr k sa n0) m pc ls (.long _ :: .int j :: .ref a :: r)) rfl rfl hd
    exact st_beh X' e' W S N q2 hk st'
  · obtain ⟨rfl, hs⟩ := chk_some hs
    obtain ⟨v, j, a, r, ty, vs, v', rfl, q2, ho, hk, hj, hlt, hv, rfl⟩ := hSt_some hs
    obtain ⟨cl, A, es⟩ := S.2.2.2.2 a _ q2
    simp only [okB, Bool.or_eq_true, decide_eq_true_eq] at ho
    rcases ho with rfl | rfl
    · cases v <;> simp only [putv, Option.some.injEq, reduceCtorEq] at hv
      subst hv
      obtain ⟨T', h', X', e', W, st'⟩ := stB X hx hZ rfl A (j := j) (fun g => g.elim hj fun g => by rw [es] at g; simp at g; omega) (g := fr (adr k sa n0) m pc ls (.int _ :: .int j :: .ref a :: r)) rfl rfl hd
      exact st_beh X' e' W S N q2 hk st'
    · cases v <;> simp only [putv, Option.some.injEq, reduceCtorEq] at hv
      subst hv
      obtain ⟨T', h', X', e', W, st'⟩ := stZ X hx hZ rfl A (j := j) (fun g => g.elim hj fun g => by rw [es] at g; simp at g; omega) (g := fr (adr k sa n0) m pc ls (.int _ :: .int j :: .ref a :: r)) rfl rfl hd
      exact st_beh X' e' W S N q2 hk st'
  · obtain ⟨rfl, hs⟩ := chk_some hs
    obtain ⟨a, r, ty, vs, rfl, q2, rfl⟩ := hLen_some hs
    obtain ⟨cl, A, es⟩ := S.2.2.2.2 a _ q2
    have ez : cl.slots.size = vs.length := by rw [es]; simp
    refine Beh.stay X S N fun target ht => X.arraylength hx (cell := cl) A.1 (State.isArrayOf_alike hZ.alike A.2.1) (g := fr (adr k sa n0) m pc ls (.ref a :: r)) rfl rfl hd target ?_
    rw [ez]; exact ht
  · obtain ⟨rfl, hs⟩ := chk_some hs
    obtain ⟨v, hv, rfl⟩ := Option.map_eq_some_iff.mp hs
    exact Beh.stay X S N (X.ldcInt hx hown (mvT hZ (hw _ (rCon_mem hv))) (g := fr (adr k sa n0) m pc ls st) rfl hd)
  · obtain ⟨rfl, hs⟩ := chk_some hs
    obtain ⟨v, hv, rfl⟩ := Option.map_eq_some_iff.mp hs
    exact Beh.stay X S N (X.ldcwInt hx hown (mvT hZ (hw _ (rCon_mem hv))) (g := fr (adr k sa n0) m pc ls st) rfl hd)
  · obtain ⟨rfl, hs⟩ := chk_some hs
    obtain ⟨v, hv, rfl⟩ := Option.map_eq_some_iff.mp hs
    exact Beh.stay X S N (X.ldc2Long hx hown (mvT hZ (hw _ (rConL_mem hv))) (g := fr (adr k sa n0) m pc ls st) rfl hd)
  · cases hs
end H
theorem hstep_size {ws : Ws} {k : Nat} {y : MethodName} {ins : Instr} {len pc : Nat} {st : List Value} {H : AHeap} {q : Nat × List Value × AHeap} (hs : hstep ws k y ins len pc st H = some q) : H.length ≤ q.2.2.length ∧ tot ws H ≤ tot ws q.2.2 := by
  unfold hstep at hs
  split at hs
  · obtain ⟨rfl, hs⟩ := chk_some hs
    unfold hGet at hs
    split at hs
    · split at hs
      · split at hs
        · obtain ⟨v, -, rfl⟩ := Option.map_eq_some_iff.mp hs; exact ⟨Nat.le_refl _, Nat.le_refl _⟩
        · cases hs
      · cases hs
    · cases hs
  · obtain ⟨rfl, hs⟩ := chk_some hs
    unfold hPut at hs
    split at hs
    · split at hs
      · rename_i C j ty C' vs q1 q2
        split at hs
        · obtain ⟨v, -, rfl⟩ := Option.map_eq_some_iff.mp hs
          exact ⟨Nat.le_of_eq (by rw [List.length_set]), Nat.le_of_eq (tot_set (o := (.object C', vs)) (o' := (.object C', vs.set j v)) q2 rfl).symm⟩
        · cases hs
      · cases hs
    · cases hs
  · obtain ⟨rfl, hs⟩ := chk_some hs
    unfold hNew at hs
    split at hs
    · split at hs
      · cases hs; exact ⟨by simp, by rw [tot_app]; omega⟩
      · cases hs
    · cases hs
  · obtain ⟨rfl, hs⟩ := chk_some hs
    unfold hNewA at hs
    split at hs
    · split at hs
      · cases hs; exact ⟨by simp, by rw [tot_app]; omega⟩
      · cases hs
    · cases hs
  all_goals first
    | (obtain ⟨rfl, hs⟩ := chk_some hs; obtain ⟨j, a, r, ty, vs, v, rfl, q2, ho, hj, hv, rfl⟩ := hLd_some hs; exact ⟨Nat.le_refl _, Nat.le_refl _⟩)
    | (obtain ⟨rfl, hs⟩ := chk_some hs; obtain ⟨v, j, a, r, ty, vs, v', rfl, q2, ho, hk, hj, hlt, hv, rfl⟩ := hSt_some hs; exact ⟨Nat.le_of_eq (by rw [List.length_set]), Nat.le_of_eq (tot_set (o := (.array ty, vs)) (o' := (.array ty, vs.set _ v')) q2 (by simp [cost])).symm⟩)
    | (obtain ⟨rfl, hs⟩ := chk_some hs; obtain ⟨a, r, ty, vs, rfl, q2, rfl⟩ := hLen_some hs; exact ⟨Nat.le_refl _, Nat.le_refl _⟩)
    | (obtain ⟨rfl, hs⟩ := chk_some hs; obtain ⟨v, hv, rfl⟩ := Option.map_eq_some_iff.mp hs; exact ⟨Nat.le_refl _, Nat.le_refl _⟩)
    | (cases hs; done)
end Jvm.Own
namespace Jvm.Own
open Sem ClassFile Op Lib Jvm.Stand Jvm.Free Jvm.LawKit Jvm.RoadKit
/-! OWN 5: the run is the machine's -/
theorem ent_ren (f : Nat → Nat) : ∀ as : List Value, ent (as.map (ren f)) = (ent as).map (renS f)
  | [] => rfl
  | v :: r => by
    simp only [List.map_cons, ent, ren_cat, ent_ren f r]
    split <;> rfl
theorem fill_eq : ∀ (as : List Value) (acc : Array Slot), as.foldl (fun acc v => if v.category = 2 then (acc.push (.val v)).push .second else acc.push (.val v)) acc = acc ++ (ent as).toArray
  | [], acc => by simp [ent]
  | v :: r, acc => by
    simp only [List.foldl_cons, ent]
    split
    · rw [fill_eq r]; simp [← Array.toList_inj]
    · rw [fill_eq r]; simp [← Array.toList_inj]
theorem entry_eq (f : Nat → Nat) (m : MethodId) (as : List Value) (mx : Nat) : entryFrame m (as.map (ren f)).toArray mx = fr f m 0 (entry as mx) [] := by
  have h : argsToLocals (as.map (ren f)).toArray mx = ((entry as mx).map (renS f)).toArray := by
    unfold argsToLocals entry
    simp only [List.foldl_toArray']
    rw [fill_eq, ent_ren]
    simp [← Array.toList_inj, renS]
  unfold entryFrame
  rw [h]; rfl
theorem entry_len {as : List Value} {mx : Nat} (h : (ent as).length ≤ mx) : (entry as mx).length = mx := by simp [entry]; omega
theorem wsum_ren (f : Nat → Nat) (st : List Value) : ((st.map (ren f)).map fun v => v.category).sum = wsum st := by
  unfold wsum
  rw [List.map_map]
  congr 1
  apply List.map_congr_left
  intro v _
  exact ren_cat f v
section Inv
variable {ws : Ws} {dn : Dn} {k : Nat} {y : MethodName} {bytes : ByteArray} {ret : Option FieldType} {pc : Nat} {ls : List Slot} {st : List Value} {H : AHeap}
theorem cR_some {i : Nat} {y' : MethodName} {b : ByteArray} {mx na sl : Nat} {r : Option FieldType} (h : cR ws dn y i = some (y', b, mx, r, na, sl)) :
    Jvm.Cond.methodLink y.cls i y' ∈ ws ∧ Jvm.Cond.code y' b mx r ∈ ws ∧ Jvm.Cond.initialized y'.cls ∈ ws ∧ Jvm.plainName y'.cls = true ∧ (y'.cls ≠ "java/lang/invoke/MethodHandle" ∧ y'.cls ≠ "java/lang/invoke/VarHandle") ∧ rCode ws y' = some (b, mx, r) ∧
    ∃ f' l' f l sig, dnOf dn y' = some (f', l') ∧ dnOf dn y = some (f, l) ∧ parseMethodDescriptor y'.desc = some sig ∧ na = sig.parameters.length ∧ f' + 1 ≤ f ∧ sl + (mx + 11) + l' ≤ l := by
  unfold cR at h
  split at h
  · cases h
  · rename_i z q1
    split at h
    · rename_i b' mx' r' f' l' f l sig q2 q3 q4 q5
      split at h
      · rename_i g
        cases h
        obtain ⟨g1, g2, g3, g4, g5, g6⟩ := g
        exact ⟨rMth_mem q1, rCode_mem q2, hasInit_mem g1, g2, ⟨g3, g4⟩, q2, f', l', f, l, sig, q3, q4, q5, rfl, g5, by omega⟩
      · cases h
    · cases h
theorem act_ret {v : Option Value} (h : act ws dn k y bytes ret pc ls st H = some (.inl v)) : (∃ z r t, decode bytes pc = .ok (.ireturn, 1) ∧ st = .int z :: r ∧ ret = some t ∧ (t = .int ∨ t = .boolean ∨ t = .byte ∨ t = .char ∨ t = .short) ∧ v = some (.int (nar t z))) ∨
    (∃ z, decode bytes pc = .ok (.lreturn, 1) ∧ st = [.long z] ∧ ret = some .long ∧ v = some (.long z)) ∨ (decode bytes pc = .ok (.return_, 1) ∧ st = [] ∧ ret = none ∧ v = none) := by
  unfold act at h
  split at h
  · cases h
  rename_i ins len hd
  split at h
  · cases h
  split at h
  · cases h
  unfold cstep at h
  split at h
  · obtain ⟨rfl, h⟩ := chk_some h
    split at h
    · split at h
      · rename_i g; cases h; exact Or.inl ⟨_, _, _, hd, rfl, rfl, g, rfl⟩
      · cases h
    · cases h
  · obtain ⟨rfl, h⟩ := chk_some h
    split at h
    · cases h; exact Or.inr (Or.inl ⟨_, hd, rfl, rfl, rfl⟩)
    · cases h
  · obtain ⟨rfl, h⟩ := chk_some h
    split at h
    · cases h; exact Or.inr (Or.inr ⟨hd, rfl, rfl, rfl⟩)
    · cases h
  · obtain ⟨rfl, h⟩ := chk_some h
    split at h
    · split at h <;> cases h
    · cases h
  · obtain ⟨rfl, h⟩ := chk_some h
    split at h
    · split at h
      · split at h <;> cases h
      · cases h
    · split at h
      · split at h
        · split at h <;> cases h
        · cases h
      · cases h
  · obtain ⟨rfl, h⟩ := chk_some h
    split at h
    · split at h
      · split at h
        · split at h <;> cases h
        · cases h
      · cases h
    · cases h
  · cases h
theorem act_step {pc' : Nat} {ls' : List Slot} {st' : List Value} {H' : AHeap} (h : act ws dn k y bytes ret pc ls st H = some (.inr (.inl (pc', ls', st', H')))) : ∃ ins len, decode bytes pc = .ok (ins, len) ∧
    ((xstep ins len pc ls st = some (pc', ls', st') ∧ H' = H) ∨ (ls' = ls ∧ hstep ws k y ins len pc st H = some (pc', st', H')) ∨
     (∃ i sl a r, ins = .invokespecial i ∧ len = 3 ∧ oR ws dn y i = some sl ∧ st = .ref a :: r ∧ wsum r ≤ sl ∧ pc' = pc + 3 ∧ ls' = ls ∧ st' = r ∧ H' = H)) := by
  unfold act at h
  split at h
  · cases h
  rename_i ins len hd
  refine ⟨ins, len, hd, ?_⟩
  split at h
  · rename_i g; cases h; exact Or.inl ⟨g, rfl⟩
  split at h
  · rename_i g; cases h; exact Or.inr (Or.inl ⟨rfl, g⟩)
  unfold cstep at h
  split at h
  · obtain ⟨rfl, h⟩ := chk_some h
    split at h
    · split at h <;> cases h
    · cases h
  · obtain ⟨rfl, h⟩ := chk_some h
    split at h <;> cases h
  · obtain ⟨rfl, h⟩ := chk_some h
    split at h <;> cases h
  · obtain ⟨rfl, h⟩ := chk_some h
    split at h
    · split at h <;> cases h
    · cases h
  · obtain ⟨rfl, h⟩ := chk_some h
    split at h
    · rename_i sl ho
      split at h
      · split at h
        · rename_i g; cases h; exact Or.inr (Or.inr ⟨_, sl, _, _, rfl, rfl, ho, rfl, g, rfl, rfl, rfl, rfl⟩)
        · cases h
      · cases h
    · split at h
      · split at h
        · split at h <;> cases h
        · cases h
      · cases h
  · obtain ⟨rfl, h⟩ := chk_some h
    split at h
    · split at h
      · split at h
        · split at h <;> cases h
        · cases h
      · cases h
    · cases h
  · cases h
/-- the three kinds of call -/
theorem act_call {y' : MethodName} {b : ByteArray} {r : Option FieldType} {en : List Slot} {rest : List Value} (h : act ws dn k y bytes ret pc ls st H = some (.inr (.inr (y', b, r, en, rest)))) : ∃ i mx na sl as, cR ws dn y i = some (y', b, mx, r, na, sl) ∧ en = entry as mx ∧ (ent as).length ≤ mx ∧ wsum rest ≤ sl ∧
    ((decode bytes pc = .ok (.invokestatic i, 3) ∧ Jvm.Cond.static y' ∈ ws ∧ as.length = na ∧ st = as.reverse ++ rest) ∨
     (∃ a as', as = .ref a :: as' ∧ as'.length = na ∧ st = as'.reverse ++ .ref a :: rest ∧ Jvm.Cond.instanceMethod y' ∈ ws ∧
      ((decode bytes pc = .ok (.invokespecial i, 3) ∧ y'.name = "<init>" ∧ r = none) ∨
       (decode bytes pc = .ok (.invokevirtual i, 3) ∧ ∃ C vs, H[a]? = some (.object C, vs) ∧ ((Jvm.Cond.privateMethod y' ∈ ws ∧ ∃ ki, Jvm.Cond.instantiable y'.cls ki ∈ ws) ∨ (Jvm.Cond.declares y' ∈ ws ∧ Jvm.Cond.selects y'.cls y' y' ∈ ws ∧ C = y'.cls)))))) := by
  unfold act at h
  split at h
  · cases h
  rename_i ins len hd
  split at h
  · cases h
  split at h
  · cases h
  unfold cstep at h
  split at h
  · obtain ⟨rfl, h⟩ := chk_some h
    split at h
    · split at h <;> cases h
    · cases h
  · obtain ⟨rfl, h⟩ := chk_some h
    split at h <;> cases h
  · obtain ⟨rfl, h⟩ := chk_some h
    split at h <;> cases h
  · rename_i i _ _
    obtain ⟨rfl, h⟩ := chk_some h
    split at h
    · rename_i y1 b1 mx r1 na sl hq
      split at h
      · rename_i g
        cases h
        unfold sR at hq
        split at hq
        · rename_i q hc
          split at hq
          · rename_i hs
            cases hq
            refine ⟨i, mx, na, sl, _, hc, rfl, g.2.2, g.2.1, Or.inl ⟨hd, hasStat_mem hs, by simp; omega, by simp⟩⟩
          · cases hq
        · cases hq
      · cases h
    · cases h
  · rename_i i _ _
    obtain ⟨rfl, h⟩ := chk_some h
    split at h
    · split at h
      · split at h <;> cases h
      · cases h
    · split at h
      · rename_i y1 b1 mx r1 na sl hq
        split at h
        · rename_i a rest' hdrop
          split at h
          · rename_i g
            cases h
            unfold nR at hq
            split at hq
            · rename_i q hc
              split at hq
              · rename_i hs
                cases hq
                refine ⟨i, mx, na, sl, _, hc, rfl, g.2.1, g.1, Or.inr ⟨a, _, rfl, by simp; omega, ?_, hasIM_mem hs.2.1, Or.inl ⟨hd, hs.1, hs.2.2⟩⟩⟩
                rw [List.reverse_reverse, ← hdrop, List.take_append_drop]
              · cases hq
            · cases hq
          · cases h
        · cases h
      · cases h
  · rename_i i _ _
    obtain ⟨rfl, h⟩ := chk_some h
    split at h
    · rename_i pv y1 b1 mx r1 na sl hq
      split at h
      · rename_i a rest' hdrop
        split at h
        · rename_i C vs hH
          split at h
          · rename_i g
            cases h
            unfold vR at hq
            split at hq
            · rename_i q hc
              split at hq
              · rename_i hs
                split at hq
                · rename_i hp; cases hq
                  obtain ⟨ki, hki⟩ := Option.isSome_iff_exists.mp hp.2
                  exact ⟨i, mx, na, sl, _, hc, rfl, g.2.2.1, g.2.1, Or.inr ⟨a, _, rfl, by simp; omega, by rw [List.reverse_reverse, ← hdrop, List.take_append_drop], hasIM_mem hs, Or.inr ⟨hd, C, vs, hH, Or.inl ⟨hasPriv_mem hp.1, ki, rInst_mem hki⟩⟩⟩⟩
                · split at hq
                  · rename_i hp; cases hq
                    exact ⟨i, mx, na, sl, _, hc, rfl, g.2.2.1, g.2.1, Or.inr ⟨a, _, rfl, by simp; omega, by rw [List.reverse_reverse, ← hdrop, List.take_append_drop], hasIM_mem hs, Or.inr ⟨hd, C, vs, hH, Or.inr ⟨hasDecl_mem hp.1, hasSel_mem hp.2, g.1.resolve_left (by simp)⟩⟩⟩⟩
                  · cases hq
              · cases hq
            · cases hq
          · cases h
        · cases h
      · cases h
    · cases h
  · cases h
theorem act_size {pc' : Nat} {ls' : List Slot} {st' : List Value} {H' : AHeap} (h : act ws dn k y bytes ret pc ls st H = some (.inr (.inl (pc', ls', st', H')))) : H.length ≤ H'.length ∧ tot ws H ≤ tot ws H' ∧ ls'.length = ls.length := by
  obtain ⟨ins, len, hd, ⟨g, rfl⟩ | ⟨rfl, g⟩ | ⟨i, sl, a, r, -, -, -, -, -, -, rfl, -, rfl⟩⟩ := act_step h
  · exact ⟨Nat.le_refl _, Nat.le_refl _, xstep_size g⟩
  · have := hstep_size g; exact ⟨this.1, this.2, rfl⟩
  · exact ⟨Nat.le_refl _, Nat.le_refl _, rfl⟩
end Inv
theorem run_size {ws : Ws} {dn : Dn} {k : Nat} : ∀ {n : Nat} {y : MethodName} {bytes : ByteArray} {ret : Option FieldType} {pc : Nat} {ls : List Slot} {st : List Value} {H : AHeap} {v : Option Value} {H' : AHeap}, run ws dn k n y bytes ret pc ls st H = some (v, H') → H.length ≤ H'.length ∧ tot ws H ≤ tot ws H'
  | 0, _, _, _, _, _, _, _, _, _, h => by cases h
  | n + 1, y, bytes, ret, pc, ls, st, H, v, H', h => by
    rw [run] at h
    split at h
    · cases h
    · cases h; exact ⟨Nat.le_refl _, Nat.le_refl _⟩
    · rename_i g
      have h1 := run_size h
      have h2 := act_size g
      exact ⟨Nat.le_trans h2.1 h1.1, Nat.le_trans h2.2.1 h1.2⟩
    · split at h
      · rename_i g
        have h1 := run_size h
        have h2 := run_size g
        exact ⟨Nat.le_trans h2.1 h1.1, Nat.le_trans h2.2 h1.2⟩
      · cases h
section Snd
/-- from here on the machine comes to a return of v with the heap H' -/
def Goes (p : Program) (l : Launch) (e : Env) (R : Room) (s : State) (m : MethodId) (args : Array Value) (below : List Frame) (meth : Method) (c : Code) (T : State) (Z : State) (ws : Ws) (k sa n0 cells slots : Nat) (H : AHeap) (g : JFrame) (ret : Option FieldType) (v : Option Value) (H' : AHeap) : Prop :=
  ∃ T' locs', Stand p l e R s m args below meth c T' locs' (cells + (H'.length - H.length)) (slots + (tot ws H' - tot ws H)) ∧ Sim Z ws k sa n0 H' T'.heap ∧ Fr n0 locs' ∧ (ret = none → v = none) ∧
    ∀ fs, (∀ (fj : JFrame) (acts : List Action), fj.method = m → fj.locked = none → fj.entered = [] → (doReturn e (T'.setTop fj) acts (v.map (ren (adr k sa n0)))).1 = T'.setFrames fs) → Steps p.tables e below (T.setTop g) (T'.setFrames fs)
variable {p : Program} {l : Launch} {e : Env} {R : Room} {s : State} {m : MethodId} {args : Array Value} {below : List Frame} {meth : Method} {c : Code} {T : State} {locs : List Loc} {cells slots : Nat}
  {Z : State} {a0 : Array Value} {ws : Ws} {dn : Dn} {k sa n0 : Nat}
theorem Goes.of {T1 : State} {H H1 H' : AHeap} {g g1 : JFrame} {ret : Option FieldType} {v : Option Value} (hst : ∀ target, Steps p.tables e below (T1.setTop g1) target → Steps p.tables e below (T.setTop g) target)
    (G : Goes p l e R s m args below meth c T1 Z ws k sa n0 (cells + (H1.length - H.length)) (slots + (tot ws H1 - tot ws H)) H1 g1 ret v H') (m1 : H.length ≤ H1.length ∧ tot ws H ≤ tot ws H1) (m2 : H1.length ≤ H'.length ∧ tot ws H1 ≤ tot ws H') :
    Goes p l e R s m args below meth c T Z ws k sa n0 cells slots H g ret v H' := by
  obtain ⟨T', locs', X', S', N', hv, go⟩ := G
  have e1 : cells + (H1.length - H.length) + (H'.length - H1.length) = cells + (H'.length - H.length) := by omega
  have e2 : slots + (tot ws H1 - tot ws H) + (tot ws H' - tot ws H1) = slots + (tot ws H' - tot ws H) := by omega
  rw [e1, e2] at X'
  exact ⟨T', locs', X', S', N', hv, fun fs hf => hst _ (go fs hf)⟩
def Snd (Z : State) (ws : Ws) (dn : Dn) (k sa n0 n : Nat) : Prop :=
  ∀ (y : MethodName) (bytes : ByteArray) (ret : Option FieldType) (pc : Nat) (ls : List Slot) (st : List Value) (H : AHeap) (v : Option Value) (H' : AHeap), run ws dn k n y bytes ret pc ls st H = some (v, H') →
  ∀ (p : Program) (l : Launch) (e : Env) (R : Room) (s : State) (m : MethodId) (args : Array Value) (below : List Frame) (meth : Method) (c : Code) (T : State) (locs : List Loc) (cells slots : Nat),
    Stand p l e R s m args below meth c T locs cells slots → p.tables.exec = Jvm.exec → Z.Warmed39 s.vm → s.vm.findClass y.cls = some m.cls → meth.name = y.name → meth.sig.returnType = ret → c.code = bytes → ls.length = c.maxLocals →
    (∀ f lc, dnOf dn y = some (f, lc) → f ≤ R.frames ∧ lc ≤ R.locals) → Sim Z ws k sa n0 H T.heap → Fr n0 locs → cells + (H'.length - H.length) ≤ R.cells → slots + (tot ws H' - tot ws H) ≤ R.slots → T.heap.size = s.heap.size + cells →
    Goes p l e R s m args below meth c T Z ws k sa n0 cells slots H (fr (adr k sa n0) m pc ls st) ret v H'
theorem met_of {n : Nat} (ih : Snd Z ws dn k sa n0 n) (l : Launch) {y : MethodName} {b : ByteArray} {mx f lc : Nat} {r : Option FieldType} (wsx : List Jvm.Cond) (hp : Jvm.plainName y.cls = true) {as : List Value} (he : (ent as).length ≤ mx) {H H1 : AHeap} {v : Option Value}
    (hrun : run ws dn k n y b r 0 (entry as mx) [] H = some (v, H1)) (hdn : ∀ f' l', dnOf dn y = some (f', l') → f' ≤ f ∧ l' ≤ lc) {h : Heap} (S : Sim Z ws k sa n0 H h) {rc rs : Nat} (hc : H1.length - H.length ≤ rc) (hs : tot ws H1 - tot ws H ≤ rs) :
    MetFree l y (head1 (Jvm.Cond.code y b mx r :: wsx) ({ frames := f, cells := rc, slots := rs, locals := lc } : Room)) (fun a U => a = (as.map (ren (adr k sa n0))).toArray ∧ Z.Warmed39 U.vm ∧ U.heap = h) (fun _ _ _ _ _ => True)
      (fun _ U o U' => ∃ w L, o = .returned w ∧ (w = v.map (ren (adr k sa n0)) ∧ Sim Z ws k sa n0 H1 U'.heap ∧ Fr n0 L) ∧ FrameEnd U o U' L (H1.length - H.length) (tot ws H1 - tot ws H)) := by
  refine MetFree.of_bodySF (plainFor_of_name hp) hisR ?_
  intro p e s m args below meth c s₁ Bd hml0 hP hK
  obtain ⟨rfl, hZ, hh⟩ := hP
  have hown : s.vm.findClass y.cls = some m.cls := findClass_of_methodNamed Bd.named
  have hnm := (name_of_methodNamed Bd.named Bd.method).1
  have X0 : Stand p l e ({ frames := f, cells := rc, slots := rs, locals := lc } : Room) s m (as.map (ren (adr k sa n0))).toArray below meth c s₁ [] 0 0 := Stand.of_body Bd
  have e0 : s₁.heap = h := by rw [← hh, Bd.state]; rfl
  obtain ⟨T', locs', X', S', N', hv, go⟩ := ih y b r 0 (entry as mx) [] H v H1 hrun p l e _ s m _ below meth c s₁ [] 0 0 X0 Bd.exec hZ hown hnm Bd.returns Bd.bytes (by rw [entry_len he]; exact hml0.symm) hdn (by rw [e0]; exact S) (Fr.nil n0) (by rw [Nat.zero_add]; exact hc) (by rw [Nat.zero_add]; exact hs) (by rw [e0, ← hh, Nat.add_zero])
  obtain ⟨fs, hr, hrun', hended, hW, hsame⟩ := X'.leave (v := v.map (ren (adr k sa n0))) (fun hn => by rw [Bd.returns] at hn; rw [hv hn]; rfl)
  refine ⟨_, _, castTop (entry_eq _ m as mx) (go fs hr), hrun', hended, _, locs', rfl, ⟨rfl, S', N'⟩, ⟨_, rfl⟩, hW, hsame.mono (Nat.le_of_eq (Nat.zero_add _)) (Nat.le_of_eq (Nat.zero_add _))⟩
set_option maxHeartbeats 2000000 in
theorem snd (hw : ∀ d ∈ ws, d.before a0 Z = true) : ∀ n, Snd Z ws dn k sa n0 n
  | 0 => fun y bytes ret pc ls st H v H' h => by cases h
  | n + 1 => fun y bytes ret pc ls st H v H' h p l e R s m args below meth c T locs cells slots X hx hZ hown hnm hret hby hls hF S N hc hl hz0 => by
    have ih := snd hw n
    rw [run] at h
    split at h
    · cases h
    · rename_i v' ha
      cases h
      have stay : ∀ {v : Option Value}, (ret = none → v = none) → (∀ fs, (∀ (fj : JFrame) (acts : List Action), fj.method = m → fj.locked = none → fj.entered = [] → (doReturn e (T.setTop fj) acts (v.map (ren (adr k sa n0)))).1 = T.setFrames fs) → Steps p.tables e below (T.setTop (fr (adr k sa n0) m pc ls st)) (T.setFrames fs)) →
          Goes p l e R s m args below meth c T Z ws k sa n0 cells slots H (fr (adr k sa n0) m pc ls st) ret v H := fun hv hg => ⟨T, locs, by rw [Nat.sub_self, Nat.sub_self]; exact X, S, N, hv, hg⟩
      rcases act_ret ha with ⟨z, r, t, hd, rfl, rfl, ht, rfl⟩ | ⟨z, hd, rfl, rfl, rfl⟩ | ⟨hd, rfl, rfl, rfl⟩
      · refine stay (fun h => by cases h) fun fs hf => ?_
        rcases ht with rfl | ht
        · exact retOut X hx hret (w := .int z) (rest := r.map (ren (adr k sa n0))) rfl (Or.inl ⟨rfl, Or.inl rfl, z, rfl⟩) (hb hby hd) hf
        · exact retN X hx hret ht (hb hby hd) hf
      · exact stay (fun h => by cases h) fun fs hf => retOut X hx hret (w := .long z) (rest := []) rfl (Or.inr (Or.inl ⟨rfl, rfl, z, rfl⟩)) (hb hby hd) hf
      · exact stay (fun _ => rfl) fun fs hf => X.returnOut hx hret (hb hby hd) hf
    · rename_i pc' ls' st' H1 ha
      have m1 := act_size ha
      have m2 := run_size h
      obtain ⟨ins, len, hd, ⟨g, rfl⟩ | ⟨rfl, g⟩ | ⟨i, sl, a, r, rfl, rfl, ho, rfl, hW, rfl, rfl, rfl, rfl⟩⟩ := act_step ha
      · obtain ⟨T', locs', X', S', N', hv, go⟩ := ih y bytes ret pc' ls' st' H1 v H' h p l e R s m args below meth c T locs cells slots X hx hZ hown hnm hret hby (m1.2.2.trans hls) hF S N hc hl hz0
        exact ⟨T', locs', X', S', N', hv, fun fs hf => xstep_sound X.here hx (adr k sa n0) (hb hby hd) g (go fs hf)⟩
      · obtain ⟨T1, locs1, X1, S1, N1, st1⟩ := hstep_sound (ls := ls') hw X hx hZ hown hnm (hb hby hd) g S N (by dsimp only; omega) (by dsimp only; omega) hz0
        dsimp only at X1 S1 st1
        have z1 := S.1
        have z2 := S1.1
        have z3 := S.2.1
        have G := ih y bytes ret pc' ls' st' H1 v H' h p l e R s m args below meth c T1 locs1 _ _ X1 hx hZ hown hnm hret hby hls hF S1 N1 (by omega) (by omega) (by omega)
        exact Goes.of st1 G ⟨m1.1, m1.2.1⟩ m2
      · unfold oR at ho
        split at ho
        · rename_i y1 b1 mx1 r1 f1 l1 q1 q2 q3
          split at ho
          · rename_i g
            cases ho
            obtain ⟨rfl, g2, g3, rfl, rfl, g4, g5⟩ := g
            obtain ⟨u1, u2⟩ := hF _ _ q3
            have eb : b1 = ⟨#[0xb1]⟩ := by cases b1; cases g3; rfl
            subst eb
            obtain ⟨T1, X1, e1, st1⟩ := initO X hx hZ hown (hw _ (rMth_mem q1)) (hw _ (hasIM_mem g2)) (hw _ (rCode_mem q2)) rfl (g := fr (adr k sa n0) m pc ls' (.ref a :: st')) rfl (by simp [hls]) rfl (hb hby hd) (by omega) (W := l1 - 12) (by show 2 * 0 + _ ≤ _; rw [wsum_ren]; omega) (by omega)
            have G := ih y bytes ret (pc + 3) ls' st' H1 v H' h p l e R s m args below meth c T1 locs cells slots X1 hx hZ hown hnm hret hby hls hF (by rw [e1]; exact S) N hc hl (by rw [e1]; exact hz0)
            obtain ⟨T', locs', X', S', N', hv, go⟩ := G
            exact ⟨T', locs', X', S', N', hv, fun fs hf => st1 _ (go fs hf)⟩
          · cases ho
        · cases ho
    · rename_i y' b r en rest ha
      split at h
      · rename_i v1 H1 h1
        have m1 := run_size h1
        have m2 := run_size h
        obtain ⟨i, mx, na, sl, as, hq, rfl, hen, hW, hk⟩ := act_call ha
        obtain ⟨w1, w2, w3, w4, w5, -, f', l', f, lc, sig, d1, d2, d3, d4, d5, d6⟩ := cR_some hq
        obtain ⟨u1, u2⟩ := hF _ _ d2
        have hM := met_of ih l [] w4 hen h1 (f := f') (lc := l') (fun f2 l2 q => by rw [d1] at q; cases q; exact ⟨Nat.le_refl _, Nat.le_refl _⟩) S (Nat.le_refl _) (Nat.le_refl _)
        have hB := backOf (R := R) (p := p) (e := e) (below := below) (s := s) (args := args) (len := 3) (W := sl) (rm := ({ frames := f', cells := H1.length - H.length, slots := tot ws H1 - tot ws H, locals := l' } : Room)) (Q := fun w h L => w = v1.map (ren (adr k sa n0)) ∧ Sim Z ws k sa n0 H1 h ∧ Fr n0 L) hM hZ (hw _ w2) (hw _ w3) (by show f' + 1 ≤ _; omega) (by show sl + (mx + 11) + l' ≤ _; omega)
        have hsz : (fr (adr k sa n0) m pc ls st).locals.size = c.maxLocals := by simp [hls]
        have hWW : ∀ st' : List Value, wsum st' ≤ sl → 2 * (fr (adr k sa n0) m pc ls st).monitorRoom + ((st'.map (ren (adr k sa n0))).map fun v => v.category).sum ≤ sl := fun st' q => by show 2 * 0 + _ ≤ _; rw [wsum_ren]; omega
        have hback : ∀ (v' : Option Value) (vm₁ : Vm) (B : Pt), Stand p l e R s m args below meth c B.U B.locs B.cells B.slots →
            (∃ L, (v' = v1.map (ren (adr k sa n0)) ∧ Sim Z ws k sa n0 H1 B.U.heap ∧ Fr n0 L) ∧ B.locs = locs ++ L ∧ B.cells = cells + (H1.length - H.length) ∧ B.slots = slots + (tot ws H1 - tot ws H)) →
            (∀ target, Steps p.tables e below (B.U.setTop { fr (adr k sa n0) m pc ls st with pc := pc + 3, stack := v'.toList ++ rest.map (ren (adr k sa n0)) }) target → Steps p.tables e below (T.setTop (fr (adr k sa n0) m pc ls st)) target) →
            Goes p l e R s m args below meth c T Z ws k sa n0 cells slots H (fr (adr k sa n0) m pc ls st) ret v H' := by
          rintro v' vm₁ ⟨T1, L1, k1, n1⟩ X1 ⟨Lc, ⟨rfl, S1, N1⟩, l1, y1, z1⟩ st1
          dsimp only [Pt.U, Pt.locs, Pt.cells, Pt.slots] at X1 l1 y1 z1 st1 S1
          subst l1 y1 z1
          have z1 := S.1
          have z2 := S1.1
          have z3 := S.2.1
          have G := ih y bytes ret (pc + 3) ls (v1.toList ++ rest) H1 v H' h p l e R s m args below meth c T1 _ _ _ X1 hx hZ hown hnm hret hby hls hF S1 (Fr.app N N1) (by omega) (by omega) (by omega)
          refine Goes.of (fun target ht => st1 target ?_) G m1 m2
          have e1 : (v1.toList ++ rest).map (ren (adr k sa n0)) = (v1.map (ren (adr k sa n0))).toList ++ rest.map (ren (adr k sa n0)) := by cases v1 <;> simp
          rw [← e1]; exact ht
        rcases hk with ⟨hd, ws1, hna, rfl⟩ | ⟨a, as', rfl, hna, rfl, wi, ⟨hd, hn, rfl⟩ | ⟨hd, C, vs, hH, hpd⟩⟩
        · obtain ⟨v', vm₁, B, -, X1, P1, st1⟩ := Jvm.LawKit.callS X hx (y := y') hown (mvT hZ (hw _ w1)) (mvT hZ (hw _ ws1)) (mvT hZ (hw _ w3)) (mvT hZ (hw _ w2)) w5 hB (g := fr (adr k sa n0) m pc ls (as.reverse ++ rest)) rfl hsz (argsL := as.map (ren (adr k sa n0))) (rest := rest.map (ren (adr k sa n0)))
            (fun sg hsg => by rw [d3] at hsg; cases hsg; simp [hna, d4]) (by simp) (hWW rest hW) (hb hby hd) (fun _ _ => ⟨rfl, rfl, by show cells + (H1.length - H.length) ≤ _; omega, by show slots + (tot ws H1 - tot ws H) ≤ _; omega⟩)
          exact hback v' vm₁ B X1 P1 st1
        · obtain ⟨v', vm₁, B, -, X1, P1, st1⟩ := X.specialBack hx (y := y') hn hown (mvT hZ (hw _ w1)) (mvT hZ (hw _ wi)) (mvT hZ (hw _ w2)) w5 hB (g := fr (adr k sa n0) m pc ls (as'.reverse ++ .ref a :: rest)) rfl hsz (Steps.refl _) (a := adr k sa n0 a) (argsL := as'.map (ren (adr k sa n0))) (rest := rest.map (ren (adr k sa n0)))
            (fun sg hsg => by rw [d3] at hsg; cases hsg; simp [hna, d4]) (by simp [ren]) (hWW rest hW) (hb hby hd) (fun _ _ => ⟨rfl, rfl, by show cells + (H1.length - H.length) ≤ _; omega, by show slots + (tot ws H1 - tot ws H) ≤ _; omega⟩)
          exact hback v' vm₁ B X1 P1 fun target ht => st1.trans ht
        · have E := (S.2.2.2.2 a _ hH).1
          rcases hpd with ⟨wp, ki, wki⟩ | ⟨wd, wsel, rfl⟩
          · obtain ⟨cq, hq1, hq2⟩ := E.cell
            have hpa : s.PrivateAt y' := Cond.privateMethod_at (mvP hZ (hw _ wp) (args := #[]))
            have hsel : (Jvm.Cond.selects y'.cls y' y').before args s = true := by
              have wz : (Jvm.Cond.instantiable y'.cls ki).before args s = true := mvT hZ (hw _ wki)
              obtain ⟨c2, k2, i1, i2, -, i4, -⟩ := Cond.instantiable_spec wz
              exact selects_self_of_private i1 i2 (Bool.or_eq_false_iff.mp i4).1 hpa (mvT hZ (hw _ wi)) w5
            obtain ⟨v', vm₁, B, -, X1, P1, st1⟩ := X.privateBack hx (y := y') hown (mvT hZ (hw _ w1)) (mvT hZ (hw _ wi)) hsel hpa (mvT hZ (hw _ w2)) w5 hB (g := fr (adr k sa n0) m pc ls (as'.reverse ++ .ref a :: rest)) rfl hsz (Steps.refl _) (a := adr k sa n0 a) hq1 hq2 (argsL := as'.map (ren (adr k sa n0))) (rest := rest.map (ren (adr k sa n0)))
              (fun sg hsg => by rw [d3] at hsg; cases hsg; simp [hna, d4]) (by simp [ren]) (hWW rest hW) (hb hby hd) (fun _ _ => ⟨rfl, rfl, by show cells + (H1.length - H.length) ≤ _; omega, by show slots + (tot ws H1 - tot ws H) ≤ _; omega⟩)
            exact hback v' vm₁ B X1 P1 fun target ht => st1.trans ht
          · obtain ⟨cq, kq, qa, qb, qc⟩ := isOf hZ rfl E
            obtain ⟨v', vm₁, B, -, X1, P1, st1⟩ := X.virtualBack hx (y := y') (z := y') hown (mvT hZ (hw _ w1)) (mvT hZ (hw _ wd)) (notFace_of_selects (args := #[]) (mvT hZ (hw _ wsel))) (mvT hZ (hw _ wsel)) (mvT hZ (hw _ wi)) w5 hB qa qc (g := fr (adr k sa n0) m pc ls (as'.reverse ++ .ref a :: rest)) rfl hsz (Steps.refl _) (argsL := as'.map (ren (adr k sa n0))) (rest := rest.map (ren (adr k sa n0)))
              (fun sg hsg => by rw [d3] at hsg; cases hsg; simp [hna, d4]) (by simp [ren]) (hWW rest hW) (hb hby hd) (fun _ _ => ⟨rfl, rfl, by show cells + (H1.length - H.length) ≤ _; omega, by show slots + (tot ws H1 - tot ws H) ≤ _; omega⟩)
            exact hback v' vm₁ B X1 P1 fun target ht => st1.trans ht
      · cases h
end Snd
end Jvm.Own
namespace Jvm.Own
open Sem ClassFile Op Lib Jvm.Stand Jvm.Free Jvm.LawKit Jvm.RoadKit
/-! OWN 6: from here on no machine is in sight -/
theorem run_succ {ws : Ws} {dn : Dn} {k : Nat} : ∀ {n : Nat} {y : MethodName} {bytes : ByteArray} {ret : Option FieldType} {pc : Nat} {ls : List Slot} {st : List Value} {H : AHeap} {r : Option Value × AHeap}, run ws dn k n y bytes ret pc ls st H = some r → run ws dn k (n + 1) y bytes ret pc ls st H = some r
  | 0, _, _, _, _, _, _, _, _, h => by cases h
  | n + 1, y, bytes, ret, pc, ls, st, H, r, h => by
    rw [run] at h
    rw [run]
    split at h
    · cases h
    · exact h
    · exact run_succ h
    · split at h
      · rename_i v H1 g
        rw [run_succ g]
        exact run_succ h
      · cases h
theorem run_mono {ws : Ws} {dn : Dn} {k n n' : Nat} {y : MethodName} {bytes : ByteArray} {ret : Option FieldType} {pc : Nat} {ls : List Slot} {st : List Value} {H : AHeap} {r : Option Value × AHeap} (hn : n ≤ n') (h : run ws dn k n y bytes ret pc ls st H = some r) : run ws dn k n' y bytes ret pc ls st H = some r := by
  induction hn with
  | refl => exact h
  | step _ ih => exact run_succ ih
/-- from here on a run comes to a return at which Q holds -/
def W (ws : Ws) (dn : Dn) (k : Nat) (y : MethodName) (bytes : ByteArray) (ret : Option FieldType) (pc : Nat) (ls : List Slot) (st : List Value) (H : AHeap) (Q : Option Value → AHeap → Prop) : Prop :=
  ∃ n v H', run ws dn k n y bytes ret pc ls st H = some (v, H') ∧ Q v H'
section
variable {ws : Ws} {dn : Dn} {k : Nat} {y : MethodName} {bytes : ByteArray} {ret : Option FieldType} {pc : Nat} {ls : List Slot} {st : List Value} {H : AHeap} {Q : Option Value → AHeap → Prop}
theorem W_step {pc' : Nat} {ls' : List Slot} {st' : List Value} {H' : AHeap} (h : act ws dn k y bytes ret pc ls st H = some (.inr (.inl (pc', ls', st', H')))) : W ws dn k y bytes ret pc ls st H Q = W ws dn k y bytes ret pc' ls' st' H' Q := by
  refine propext ⟨fun ⟨n, v, H1, h1, h2⟩ => ?_, fun ⟨n, v, H1, h1, h2⟩ => ⟨n + 1, v, H1, by rw [run, h]; exact h1, h2⟩⟩
  cases n with
  | zero => cases h1
  | succ n => rw [run, h] at h1; exact ⟨n, v, H1, h1, h2⟩
theorem W_ret {v : Option Value} (h : act ws dn k y bytes ret pc ls st H = some (.inl v)) : W ws dn k y bytes ret pc ls st H Q = Q v H := by
  refine propext ⟨fun ⟨n, v, H1, h1, h2⟩ => ?_, fun h2 => ⟨1, v, H, by rw [run, h], h2⟩⟩
  cases n with
  | zero => cases h1
  | succ n => rw [run, h] at h1; cases h1; exact h2
theorem W_call {y' : MethodName} {b : ByteArray} {r : Option FieldType} {en : List Slot} {rest : List Value} (h : act ws dn k y bytes ret pc ls st H = some (.inr (.inr (y', b, r, en, rest)))) :
    W ws dn k y bytes ret pc ls st H Q = W ws dn k y' b r 0 en [] H (fun v H1 => W ws dn k y bytes ret (pc + 3) ls (v.toList ++ rest) H1 Q) := by
  refine propext ⟨fun ⟨n, v, H1, h1, h2⟩ => ?_, fun ⟨n, v, H1, h1, n', v', H', h2, h3⟩ => ⟨max n n' + 1, v', H', ?_, h3⟩⟩
  · cases n with
    | zero => cases h1
    | succ n =>
      rw [run, h] at h1
      dsimp only at h1
      split at h1
      · rename_i v' H' g; exact ⟨n, v', H', g, n, v, H1, h1, h2⟩
      · cases h1
  · rw [run, h]
    dsimp only
    rw [run_mono (Nat.le_max_left _ _) h1]
    exact run_mono (Nat.le_max_right _ _) h2
theorem W.mono {Q' : Option Value → AHeap → Prop} (h : W ws dn k y bytes ret pc ls st H Q) (hq : ∀ v H', Q v H' → Q' v H') : W ws dn k y bytes ret pc ls st H Q' := by
  obtain ⟨n, v, H', h1, h2⟩ := h; exact ⟨n, v, H', h1, hq _ _ h2⟩
theorem act_x {ins : Instr} {len pc' : Nat} {ls' : List Slot} {st' : List Value} (hd : decode bytes pc = .ok (ins, len)) (hx : xstep ins len pc ls st = some (pc', ls', st')) : act ws dn k y bytes ret pc ls st H = some (.inr (.inl (pc', ls', st', H))) := by
  unfold act; rw [hd]; dsimp only; rw [hx]
theorem act_h {ins : Instr} {len pc' : Nat} {st' : List Value} {H' : AHeap} (hd : decode bytes pc = .ok (ins, len)) (hx : xstep ins len pc ls st = none) (hh : hstep ws k y ins len pc st H = some (pc', st', H')) : act ws dn k y bytes ret pc ls st H = some (.inr (.inl (pc', ls, st', H'))) := by
  unfold act; rw [hd]; dsimp only; rw [hx]; dsimp only; rw [hh]
theorem act_c {ins : Instr} {len : Nat} (hd : decode bytes pc = .ok (ins, len)) (hx : xstep ins len pc ls st = none) (hh : hstep ws k y ins len pc st H = none) : act ws dn k y bytes ret pc ls st H = cstep ws dn y ret ins len pc ls st H := by
  unfold act; rw [hd]; dsimp only; rw [hx]; dsimp only; rw [hh]
/-- a plain step -/
theorem w_x {ins : Instr} {len pc' : Nat} {ls' : List Slot} {st' : List Value} (hd : decode bytes pc = .ok (ins, len)) (hx : xstep ins len pc ls st = some (pc', ls', st')) : W ws dn k y bytes ret pc ls st H Q = W ws dn k y bytes ret pc' ls' st' H Q := W_step (act_x hd hx)
/-- a conditional branch -/
theorem w_if {cd : ClassFile.Cond} {o : Int} {x : Int32} {t : Nat} {P : Prop} [Decidable P] (hd : decode bytes pc = .ok (.ifCond cd o, 3)) (hp : ifCond.holds cd x = decide P) (hj : jmp pc o = some t) :
    W ws dn k y bytes ret pc ls (.int x :: st) H Q = if P then W ws dn k y bytes ret t ls st H Q else W ws dn k y bytes ret (pc + 3) ls st H Q := by
  split
  · exact w_x hd (by simp only [xstep, chk, br, hp, hj, if_true]; simp [*])
  · exact w_x hd (by simp only [xstep, chk, br, hp, hj, if_true]; simp [*])
theorem w_icmp {cd : ClassFile.Cond} {o : Int} {x1 x2 : Int32} {t : Nat} {P : Prop} [Decidable P] (hd : decode bytes pc = .ok (.if_icmp cd o, 3)) (hp : if_icmp.holds cd x1 x2 = decide P) (hj : jmp pc o = some t) :
    W ws dn k y bytes ret pc ls (.int x2 :: .int x1 :: st) H Q = if P then W ws dn k y bytes ret t ls st H Q else W ws dn k y bytes ret (pc + 3) ls st H Q := by
  split
  · exact w_x hd (by simp only [xstep, chk, br, hp, hj, if_true]; simp [*])
  · exact w_x hd (by simp only [xstep, chk, br, hp, hj, if_true]; simp [*])
theorem w_get {i j : Nat} {a : Nat} {C : String} {vs : List Value} {v : Value} (hd : decode bytes pc = .ok (.getfield i, 3)) (hr : gfR ws y.cls i = some (C, j)) (ho : H[a]? = some (.object C, vs)) (hv : vs[j]? = some v) :
    W ws dn k y bytes ret pc ls (.ref a :: st) H Q = W ws dn k y bytes ret (pc + 3) ls (v :: st) H Q :=
  W_step (act_h hd rfl (by simp only [hstep, chk, hGet, hr, ho, hv, if_true, Option.map_some]))
theorem w_put {i j : Nat} {a : Nat} {C : String} {ty : FieldType} {vs : List Value} {v v' : Value} {H' : AHeap} (hd : decode bytes pc = .ok (.putfield i, 3)) (hr : pfR ws y.cls y.name i = some (C, j, ty)) (ho : H[a]? = some (.object C, vs)) (hk : k ≤ a) (hj : j < vs.length) (hv : putv ty v = some v') (hH : H.set a (.object C, vs.set j v') = H') :
    W ws dn k y bytes ret pc ls (v :: .ref a :: st) H Q = W ws dn k y bytes ret (pc + 3) ls st H' Q :=
  W_step (act_h hd rfl (by simp only [hstep, chk, hPut, hr, ho, hv, if_true, true_and, hk, hj, Option.map_some, hH, and_self]))
theorem w_new {i : Nat} {C : String} (hd : decode bytes pc = .ok (.new i, 3)) (hr : hNew ws y.cls i pc H st = some (pc + 3, .ref H.length :: st, H ++ [(.object C, (olay ws C).map dflt)])) :
    W ws dn k y bytes ret pc ls st H Q = W ws dn k y bytes ret (pc + 3) ls (.ref H.length :: st) (H ++ [(.object C, (olay ws C).map dflt)]) Q :=
  W_step (act_h hd rfl (by simp only [hstep, chk, if_true]; exact hr))
theorem w_newA {aty : ArrayType} {n : Int32} {ty : FieldType} (hd : decode bytes pc = .ok (.newarray aty, 2)) (ht : newarray.typeOf aty = ty) (hr : hasArr ws ty = true) (hn : ¬ n < 0) (hb : n.toNatClampNeg * 8 ≤ 536870912) :
    W ws dn k y bytes ret pc ls (.int n :: st) H Q = W ws dn k y bytes ret (pc + 2) ls (.ref H.length :: st) (H ++ [(.array ty, List.replicate n.toNatClampNeg (defaultValue ty))]) Q := by
  subst ht
  exact W_step (act_h hd rfl (by simp only [hstep, chk, hNewA, hr, hn, hb, if_true, not_false_eq_true, and_self]))
/-- may the instruction read an array of that kind? -/
def ldOk : Instr → FieldType → Bool
  | .iaload, .int | .caload, .char | .laload, .long | .baload, .byte | .baload, .boolean => true
  | _, _ => false
def stOk : Instr → FieldType → Bool
  | .iastore, .int | .castore, .char | .lastore, .long | .bastore, .byte | .bastore, .boolean => true
  | _, _ => false
theorem w_ald {ins : Instr} {a : Nat} {j : Int32} {ty : FieldType} {vs : List Value} {v : Value} (hd : decode bytes pc = .ok (ins, 1)) (hi : ldOk ins ty = true) (ho : H[a]? = some (.array ty, vs)) (hj : ¬ j < 0) (hv : vs[j.toNatClampNeg]? = some v) :
    W ws dn k y bytes ret pc ls (.int j :: .ref a :: st) H Q = W ws dn k y bytes ret (pc + 1) ls (v :: st) H Q := by
  unfold ldOk at hi
  split at hi
  all_goals first
    | exact W_step (act_h hd rfl (by simp only [hstep, chk, hLd, okT, okB, ho, hv, hj, if_true, Option.map_some, decide_true, not_false_eq_true, and_self, Bool.or_true, Bool.true_or]))
    | cases hi
theorem w_ast {ins : Instr} {a : Nat} {j : Int32} {ty : FieldType} {vs : List Value} {v v' : Value} {H' : AHeap} (hd : decode bytes pc = .ok (ins, 1)) (hi : stOk ins ty = true) (ho : H[a]? = some (.array ty, vs)) (hk : k ≤ a) (hj : ¬ j < 0) (hl : j.toNatClampNeg < vs.length) (hv : putv ty v = some v') (hH : H.set a (.array ty, vs.set j.toNatClampNeg v') = H') :
    W ws dn k y bytes ret pc ls (v :: .int j :: .ref a :: st) H Q = W ws dn k y bytes ret (pc + 1) ls st H' Q := by
  unfold stOk at hi
  split at hi
  all_goals first
    | exact W_step (act_h hd rfl (by simp only [hstep, chk, hSt, okT, okB, ho, hv, hj, hk, hl, hH, if_true, Option.map_some, decide_true, not_false_eq_true, and_self, Bool.or_true, Bool.true_or]))
    | cases hi
theorem w_len {a : Nat} {ty : FieldType} {vs : List Value} (hd : decode bytes pc = .ok (.arraylength, 1)) (ho : H[a]? = some (.array ty, vs)) :
    W ws dn k y bytes ret pc ls (.ref a :: st) H Q = W ws dn k y bytes ret (pc + 1) ls (.int vs.length.toInt32 :: st) H Q :=
  W_step (act_h hd rfl (by simp only [hstep, chk, hLen, ho, if_true]))
theorem w_ldc {i : Nat} {v : Int32} (hd : decode bytes pc = .ok (.ldc i, 2)) (hr : rCon ws y.cls i = some v) : W ws dn k y bytes ret pc ls st H Q = W ws dn k y bytes ret (pc + 2) ls (.int v :: st) H Q :=
  W_step (act_h hd rfl (by simp only [hstep, chk, hr, if_true, Option.map_some]))
theorem w_ldcw {i : Nat} {v : Int32} (hd : decode bytes pc = .ok (.ldc_w i, 3)) (hr : rCon ws y.cls i = some v) : W ws dn k y bytes ret pc ls st H Q = W ws dn k y bytes ret (pc + 3) ls (.int v :: st) H Q :=
  W_step (act_h hd rfl (by simp only [hstep, chk, hr, if_true, Option.map_some]))
theorem w_ldc2 {i : Nat} {v : Int64} (hd : decode bytes pc = .ok (.ldc2_w i, 3)) (hr : rConL ws y.cls i = some v) : W ws dn k y bytes ret pc ls st H Q = W ws dn k y bytes ret (pc + 3) ls (.long v :: st) H Q :=
  W_step (act_h hd rfl (by simp only [hstep, chk, hr, if_true, Option.map_some]))
theorem w_iret {z : Int32} (hd : decode bytes pc = .ok (.ireturn, 1)) (hr : ret = some .int) : W ws dn k y bytes ret pc ls (.int z :: st) H Q = Q (some (.int z)) H := by
  subst hr; exact W_ret (by rw [act_c hd rfl rfl]; rfl)
theorem w_iretN {z : Int32} {t : FieldType} (hd : decode bytes pc = .ok (.ireturn, 1)) (hr : ret = some t) (ht : t = .int ∨ t = .boolean ∨ t = .byte ∨ t = .char ∨ t = .short) : W ws dn k y bytes ret pc ls (.int z :: st) H Q = Q (some (.int (nar t z))) H := by
  subst hr; exact W_ret (by rw [act_c hd rfl rfl]; simp only [cstep, chk, if_true, ht])
theorem w_lret {z : Int64} (hd : decode bytes pc = .ok (.lreturn, 1)) (hr : ret = some .long) : W ws dn k y bytes ret pc ls [.long z] H Q = Q (some (.long z)) H := by
  subst hr; exact W_ret (by rw [act_c hd rfl rfl]; rfl)
theorem w_vret (hd : decode bytes pc = .ok (.return_, 1)) (hr : ret = none) : W ws dn k y bytes ret pc ls [] H Q = Q none H := by
  subst hr; exact W_ret (by rw [act_c hd rfl rfl]; rfl)
theorem w_obj {i sl : Nat} {a : Nat} (hd : decode bytes pc = .ok (.invokespecial i, 3)) (hr : oR ws dn y i = some sl) (hw : wsum st ≤ sl) : W ws dn k y bytes ret pc ls (.ref a :: st) H Q = W ws dn k y bytes ret (pc + 3) ls st H Q :=
  W_step (by rw [act_c hd rfl rfl]; simp only [cstep, chk, if_true, hr, hw])
theorem w_stat {i mx na sl : Nat} {y' : MethodName} {b : ByteArray} {r : Option FieldType} {as rest : List Value} {en : List Slot} (hd : decode bytes pc = .ok (.invokestatic i, 3)) (hr : sR ws dn y i = some (y', b, mx, r, na, sl)) (hn : as.length = na) (hw : wsum rest ≤ sl) (he : (ent as.reverse).length ≤ mx) (hen : entry as.reverse mx = en) :
    W ws dn k y bytes ret pc ls (as ++ rest) H Q = W ws dn k y' b r 0 en [] H (fun v H1 => W ws dn k y bytes ret (pc + 3) ls (v.toList ++ rest) H1 Q) := by
  subst hn hen
  have e1 : (as ++ rest).take as.length = as := by simp
  have e2 : (as ++ rest).drop as.length = rest := by simp
  exact W_call (by rw [act_c hd rfl rfl]; simp only [cstep, chk, if_true, hr, e1, e2, hw, he, List.length_append, Nat.le_add_right, and_self])
theorem w_spec {i mx na sl a : Nat} {y' : MethodName} {b : ByteArray} {r : Option FieldType} {as rest : List Value} {en : List Slot} (hd : decode bytes pc = .ok (.invokespecial i, 3)) (h0 : oR ws dn y i = none) (hr : nR ws dn y i = some (y', b, mx, r, na, sl)) (hn : as.length = na) (hw : wsum rest ≤ sl) (he : (ent (.ref a :: as.reverse)).length ≤ mx) (hen : entry (.ref a :: as.reverse) mx = en) :
    W ws dn k y bytes ret pc ls (as ++ .ref a :: rest) H Q = W ws dn k y' b r 0 en [] H (fun v H1 => W ws dn k y bytes ret (pc + 3) ls (v.toList ++ rest) H1 Q) := by
  subst hn hen
  have e1 : (as ++ .ref a :: rest).take as.length = as := by simp
  have e2 : (as ++ .ref a :: rest).drop as.length = .ref a :: rest := by simp
  exact W_call (by rw [act_c hd rfl rfl]; simp only [cstep, chk, if_true, h0, hr, e1, e2, hw, he, List.length_append, Nat.le_add_right, and_self])
theorem w_virt {i mx na sl a : Nat} {pv : Bool} {y' : MethodName} {b : ByteArray} {r : Option FieldType} {as rest : List Value} {en : List Slot} {C : String} {vs : List Value} (hd : decode bytes pc = .ok (.invokevirtual i, 3)) (hr : vR ws dn y i = some (pv, y', b, mx, r, na, sl)) (ho : H[a]? = some (.object C, vs)) (hC : C = y'.cls) (hn : as.length = na) (hw : wsum rest ≤ sl) (he : (ent (.ref a :: as.reverse)).length ≤ mx) (hen : entry (.ref a :: as.reverse) mx = en) :
    W ws dn k y bytes ret pc ls (as ++ .ref a :: rest) H Q = W ws dn k y' b r 0 en [] H (fun v H1 => W ws dn k y bytes ret (pc + 3) ls (v.toList ++ rest) H1 Q) := by
  subst hn hen hC
  have e1 : (as ++ .ref a :: rest).take as.length = as := by simp
  have e2 : (as ++ .ref a :: rest).drop as.length = .ref a :: rest := by simp
  exact W_call (by rw [act_c hd rfl rfl]; simp only [cstep, chk, if_true, hr, e1, e2, ho, hw, he, List.length_append, Nat.le_add_right, and_self, or_true])
end
theorem law_of {Z : State} {a0 : Array Value} {ws : Ws} {dn : Dn} {k sa n0 : Nat} (hw : ∀ d ∈ ws, d.before a0 Z = true) (l : Launch) {y : MethodName} {b : ByteArray} {mx f lc rc rs : Nat} {r : Option FieldType} (wsx : List Jvm.Cond) (hp : Jvm.plainName y.cls = true) {as : List Value} (he : (ent as).length ≤ mx) {H : AHeap}
    (hW : W ws dn k y b r 0 (entry as mx) [] H (fun v H1 => v = some (.int 1) ∧ H1.length - H.length ≤ rc ∧ tot ws H1 - tot ws H ≤ rs)) (hdn : ∀ f' l', dnOf dn y = some (f', l') → f' ≤ f ∧ l' ≤ lc) {h : Heap} (S : Sim Z ws k sa n0 H h) :
    MetFree l y (head1 (Jvm.Cond.code y b mx r :: wsx) ({ frames := f, cells := rc, slots := rs, locals := lc } : Room)) (fun a U => a = (as.map (ren (adr k sa n0))).toArray ∧ Z.Warmed39 U.vm ∧ U.heap = h) (fun _ _ _ _ _ => True)
      (fun _ U o U' => ∃ w L, o = .returned w ∧ (w = some (.int 1) ∧ Fr n0 L) ∧ FrameEnd U o U' L rc rs) := by
  obtain ⟨n, v, H1, h1, rfl, h3, h4⟩ := hW
  have M := met_of (snd hw n) l wsx hp he h1 hdn S h3 h4
  intro p e ha hc hk s m args below hf happ hP hK
  obtain ⟨n', o, g1, g2, g3, w, L, rfl, ⟨rfl, -, N⟩, F⟩ := M p e ha hc hk s m args below hf happ hP hK
  exact ⟨n', _, g1, g2, g3, _, L, rfl, ⟨rfl, N⟩, F.1, F.2.1, F.2.2.mono h3 h4⟩
/-- the start of a law whose arguments hold no reference -/
theorem Sim.empty (Z : State) (ws : Ws) (h : Heap) : Sim Z ws 0 0 h.size [] h :=
  ⟨by simp, Nat.le_refl _, Nat.zero_le _, (fun q => absurd q (by decide)), (fun i o q => by simp at q)⟩
/-- the start of a law over one array of ints -/
theorem Sim.script {Z : State} (ws : Ws) {h : Heap} {a : Addr} {c : Cell} {vs : List Int32} (A : Arr Z h a c .int) (e : c.slots = (vs.map Value.int).toArray) : Sim Z ws 1 a h.size [(.array .int, vs.map Value.int)] h := by
  refine ⟨by simp, Nat.le_refl _, Nat.le_refl _, fun _ => A.lt, fun i o q => ?_⟩
  cases i with
  | zero =>
    cases q
    refine ⟨c, A, e.trans ?_⟩
    rw [List.map_map]; rfl
  | succ i => cases q
end Jvm.Own
namespace Jvm.Own
open Sem ClassFile Op Lib Jvm.Stand Jvm.Free Jvm.LawKit Jvm.RoadKit
/-! OWN 7: states of an object as plain functions -/
def ou {α : Type} (s : Nat → α) (i : Nat) (v : α) : Nat → α := fun j => if j = i then v else s j
theorem ou_a {α : Type} (s : Nat → α) (i : Nat) (v : α) (j : Nat) : ou s i v j = if j = i then v else s j := rfl
def pad (b : Nat) (pre : AHeap) : AHeap := (pre ++ List.replicate b (FieldType.int, [])).take b
theorem pad_len (b : Nat) (pre : AHeap) : (pad b pre).length = b := by simp [pad]
theorem pad_eq {b : Nat} {pre : AHeap} (h : pre.length = b) : pad b pre = pre := by subst h; simp [pad]
theorem pad_0 (pre : AHeap) : pad 0 pre = [] := by simp [pad]
theorem tot_cons (ws : Ws) (o : FieldType × List Value) (r : AHeap) : tot ws (o :: r) = cost ws o + tot ws r := by simp [tot]
theorem tot_append (ws : Ws) (a r : AHeap) : tot ws (a ++ r) = tot ws a + tot ws r := by simp [tot]
theorem tot_nil (ws : Ws) : tot ws [] = 0 := rfl
theorem pad_get (b : Nat) (pre r : AHeap) (i : Nat) : (pad b pre ++ r)[b + i]? = r[i]? := by
  rw [List.getElem?_append_right (by rw [pad_len]; omega), pad_len]; congr 1; omega
theorem pad_get0 (b : Nat) (pre r : AHeap) : (pad b pre ++ r)[b]? = r[0]? := pad_get b pre r 0
theorem pad_set (b : Nat) (pre r : AHeap) (i : Nat) (o : FieldType × List Value) : (pad b pre ++ r).set (b + i) o = pad b pre ++ r.set i o := by
  rw [List.set_append_right _ _ (by rw [pad_len]; omega), pad_len]; congr 2; omega
theorem pad_set0 (b : Nat) (pre r : AHeap) (o : FieldType × List Value) : (pad b pre ++ r).set b o = pad b pre ++ r.set 0 o := pad_set b pre r 0 o
theorem rCode_of {ws : Ws} {y : MethodName} {b : ByteArray} {m i : Nat} {r : Option FieldType} (h : ws[i]? = some (.code y b m r)) (h2 : (ws.take i).all (fun d => match d with | .code z _ _ _ => !decide (z = y) | _ => true) = true) : rCode ws y = some (b, m, r) := by
  have e : ws = ws.take i ++ (.code y b m r :: ws.drop (i + 1)) := by
    obtain ⟨hi, hg⟩ := List.getElem?_eq_some_iff.mp h
    rw [← hg, ← List.drop_eq_getElem_cons hi, List.take_append_drop]
  unfold rCode
  rw [e, List.findSome?_append]
  have e1 : (ws.take i).findSome? (fun d => match d with | .code z b m r => if z = y then some (b, m, r) else none | _ => none) = none := by
    rw [List.findSome?_eq_none_iff]
    intro d hd
    have q := List.all_eq_true.mp h2 d hd
    split
    · rename_i z b' m' r'
      simp at q
      simp [q]
    · rfl
  rw [e1]
  simp
theorem cR_of {ws : Ws} {dn : Dn} {y y' : MethodName} {b : ByteArray} {mx i f' l' f l na sl : Nat} {r : Option FieldType} {sig : MethodDescriptor} (h1 : rMth ws y.cls i = some y') (h2 : rCode ws y' = some (b, mx, r)) (h3 : dnOf dn y' = some (f', l')) (h4 : dnOf dn y = some (f, l)) (h5 : parseMethodDescriptor y'.desc = some sig)
    (h6 : decide (hasInit ws y'.cls = true ∧ Jvm.plainName y'.cls = true ∧ y'.cls ≠ "java/lang/invoke/MethodHandle" ∧ y'.cls ≠ "java/lang/invoke/VarHandle" ∧ f' + 1 ≤ f ∧ mx + 11 + l' ≤ l) = true) (h7 : sig.parameters.length = na) (h8 : l - (mx + 11 + l') = sl) : cR ws dn y i = some (y', b, mx, r, na, sl) := by
  subst h7 h8
  unfold cR
  rw [h1]; dsimp only
  rw [h2, h3, h4, h5]; dsimp only
  rw [if_pos (of_decide_eq_true h6)]
theorem sR_of {ws : Ws} {dn : Dn} {y : MethodName} {i : Nat} {q : MethodName × ByteArray × Nat × Option FieldType × Nat × Nat} (h : cR ws dn y i = some q) (hs : hasStat ws q.1 = true) : sR ws dn y i = some q := by
  unfold sR; rw [h]; dsimp only; rw [if_pos hs]
theorem nR_of {ws : Ws} {dn : Dn} {y : MethodName} {i : Nat} {q : MethodName × ByteArray × Nat × Option FieldType × Nat × Nat} (h : cR ws dn y i = some q) (h1 : q.1.name = "<init>") (h2 : hasIM ws q.1 = true) (h3 : q.2.2.2.1 = none) : nR ws dn y i = some q := by
  unfold nR; rw [h]; dsimp only; rw [if_pos ⟨h1, h2, h3⟩]
theorem vR_of {ws : Ws} {dn : Dn} {y : MethodName} {i : Nat} {q : MethodName × ByteArray × Nat × Option FieldType × Nat × Nat} (h : cR ws dn y i = some q) (h1 : hasIM ws q.1 = true) (h2 : decide (hasPriv ws q.1 = true ∧ (rInst ws q.1.cls).isSome = true) = false) (h3 : decide (hasDecl ws q.1 = true ∧ hasSel ws q.1 = true) = true) : vR ws dn y i = some (false, q) := by
  unfold vR; rw [h]; dsimp only; rw [if_pos h1, if_neg (of_decide_eq_false h2), if_pos (of_decide_eq_true h3)]
theorem pR_of {ws : Ws} {dn : Dn} {y : MethodName} {i : Nat} {q : MethodName × ByteArray × Nat × Option FieldType × Nat × Nat} (h : cR ws dn y i = some q) (h1 : hasIM ws q.1 = true) (h2 : decide (hasPriv ws q.1 = true ∧ (rInst ws q.1.cls).isSome = true) = true) : vR ws dn y i = some (true, q) := by
  unfold vR; rw [h]; dsimp only; rw [if_pos h1, if_pos (of_decide_eq_true h2)]
def inB {α : Type} (j : Int32) (l : List α) : Prop := ¬ j < 0 ∧ j.toNatClampNeg < l.length
def getA (l : List Int32) (j : Int32) : Int32 := l.getD j.toNatClampNeg 0
def getL (l : List Int64) (j : Int32) : Int64 := l.getD j.toNatClampNeg 0
def setA {α : Type} (l : List α) (j : Int32) (v : α) : List α := l.set j.toNatClampNeg v
def c1 : Slot → Bool
  | .unset => true
  | .second => false
  | .val v => v.category == 1
theorem c1_u : c1 .unset = true := rfl
theorem c1_i (x : Int32) : c1 (.val (.int x)) = true := rfl
theorem c1_r (a : Nat) : c1 (.val (.ref a)) = true := rfl
theorem c1_n : c1 (.val .null) = true := rfl
theorem i_eq (x y : Int32) : if_icmp.holds .eq x y = decide (x = y) := by simp only [if_icmp.holds]; by_cases h : x = y <;> simp [h]
theorem i_ne (x y : Int32) : if_icmp.holds .ne x y = !decide (x = y) := by simp only [if_icmp.holds]; by_cases h : x = y <;> simp [h]
theorem i_lt (x y : Int32) : if_icmp.holds .lt x y = decide (x < y) := rfl
theorem i_gt (x y : Int32) : if_icmp.holds .gt x y = decide (y < x) := rfl
theorem i_ge (x y : Int32) : if_icmp.holds .ge x y = !decide (x < y) := by
  show decide (y ≤ x) = _
  have e1 : (y ≤ x) ↔ ¬ (x < y) := by rw [Int32.le_iff_toInt_le, Int32.lt_iff_toInt_lt]; omega
  by_cases h : x < y
  · have : ¬ y ≤ x := fun g => e1.mp g h
    simp [h, this]
  · have := e1.mpr h
    simp [h, this]
theorem i_le (x y : Int32) : if_icmp.holds .le x y = !decide (y < x) := i_ge y x
theorem z_eq (x : Int32) : ifCond.holds .eq x = decide (x = 0) := i_eq x 0
theorem z_ne (x : Int32) : ifCond.holds .ne x = !decide (x = 0) := i_ne x 0
theorem z_lt (x : Int32) : ifCond.holds .lt x = decide (x < 0) := rfl
theorem z_gt (x : Int32) : ifCond.holds .gt x = decide (0 < x) := rfl
theorem z_ge (x : Int32) : ifCond.holds .ge x = !decide (x < 0) := i_ge x 0
theorem z_le (x : Int32) : ifCond.holds .le x = !decide (0 < x) := i_le x 0
theorem nb0 : nar .boolean 0 = 0 := by decide
theorem nb1 : nar .boolean 1 = 1 := by decide
section
variable {ws : Ws} {dn : Dn} {k : Nat} {y : MethodName} {bytes : ByteArray} {ret : Option FieldType} {pc : Nat} {ls : List Slot} {st : List Value} {H : AHeap} {Q : Option Value → AHeap → Prop}
theorem W_stuck (h : act ws dn k y bytes ret pc ls st H = none) : W ws dn k y bytes ret pc ls st H Q = False := by
  refine propext ⟨fun ⟨n, v, H1, h1, h2⟩ => ?_, False.elim⟩
  cases n with
  | zero => cases h1
  | succ n => rw [run, h] at h1; cases h1
theorem stl_c1 {i : Nat} {o : Slot} {v : Value} (ho : ls[i]? = some o) (hc : c1 o = true) (hv : v.category = 1) : stl ls i v = some (ls.set i (.val v)) := by
  have h := XS.store1 (l := ls.toArray) (i := i) (v := v) (o := o) (by simpa using ho) (by
    cases o with
    | unset => exact Or.inl rfl
    | second => cases hc
    | val w => exact Or.inr ⟨w, rfl, by simpa [c1] using hc⟩) hv
  unfold stl
  rw [h]; simp
/-- a store of one word -/
theorem w_st {ins : Instr} {len i : Nat} {o : Slot} {v : Value} {p : Value → Bool} {nx : Nat} {ls' : List Slot} (hd : decode bytes pc = .ok (ins, len)) (hx : xstep ins len pc ls (v :: st) = stV p nx i ls (v :: st)) (hp : p v = true) (hv : v.category = 1) (ho : ls[i]? = some o) (hs : ls.set i (.val v) = ls') (hc : c1 o = true) :
    W ws dn k y bytes ret pc ls (v :: st) H Q = W ws dn k y bytes ret nx ls' st H Q := by
  subst hs
  exact w_x hd (by rw [hx]; simp only [stV, hp, if_true, stl_c1 ho hc hv, Option.map_some])
theorem w_iinc {i : Nat} {c : Int} {x z : Int32} {ls' : List Slot} (hd : decode bytes pc = .ok (.iinc i c, 3)) (ho : ls[i]? = some (.val (.int x))) (hz : Int32.ofInt c = z) (hs : ls.set i (.val (.int (x + z))) = ls') :
    W ws dn k y bytes ret pc ls st H Q = W ws dn k y bytes ret (pc + 3) ls' st H Q := by
  subst hs hz
  exact w_x hd (by simp only [xstep, chk, if_true, ho, stl_c1 (v := .int (x + Int32.ofInt c)) ho rfl rfl, Option.map_some])
theorem w_con {ins : Instr} {len nx : Nat} {v v' : Value} (hd : decode bytes pc = .ok (ins, len)) (hx : xstep ins len pc ls st = some (nx, ls, v :: st)) (hv : v = v') : W ws dn k y bytes ret pc ls st H Q = W ws dn k y bytes ret nx ls (v' :: st) H Q := by
  subst hv; exact w_x hd hx
theorem w_ifN {cd : ClassFile.Cond} {o : Int} {x : Int32} {t : Nat} {P : Prop} [Decidable P] (hd : decode bytes pc = .ok (.ifCond cd o, 3)) (hp : ifCond.holds cd x = !decide P) (hj : jmp pc o = some t) :
    W ws dn k y bytes ret pc ls (.int x :: st) H Q = if P then W ws dn k y bytes ret (pc + 3) ls st H Q else W ws dn k y bytes ret t ls st H Q := by
  split
  · exact w_x hd (by simp only [xstep, chk, br, hp, hj, if_true]; simp [*])
  · exact w_x hd (by simp only [xstep, chk, br, hp, hj, if_true]; simp [*])
theorem w_icmpN {cd : ClassFile.Cond} {o : Int} {x1 x2 : Int32} {t : Nat} {P : Prop} [Decidable P] (hd : decode bytes pc = .ok (.if_icmp cd o, 3)) (hp : if_icmp.holds cd x1 x2 = !decide P) (hj : jmp pc o = some t) :
    W ws dn k y bytes ret pc ls (.int x2 :: .int x1 :: st) H Q = if P then W ws dn k y bytes ret (pc + 3) ls st H Q else W ws dn k y bytes ret t ls st H Q := by
  split
  · exact w_x hd (by simp only [xstep, chk, br, hp, hj, if_true]; simp [*])
  · exact w_x hd (by simp only [xstep, chk, br, hp, hj, if_true]; simp [*])
theorem ld_stuck {ins : Instr} {a : Nat} {j : Int32} {ty : FieldType} {vs : List Value} (hd : decode bytes pc = .ok (ins, 1)) (hi : ldOk ins ty = true) (ho : H[a]? = some (.array ty, vs)) (hj : ¬ (¬ j < 0 ∧ j.toNatClampNeg < vs.length)) : act ws dn k y bytes ret pc ls (.int j :: .ref a :: st) H = none := by
  have hv : j < 0 ∨ vs[j.toNatClampNeg]? = none := by
    by_cases q : j < 0
    · exact Or.inl q
    · exact Or.inr (List.getElem?_eq_none (Nat.le_of_not_lt fun g => hj ⟨q, g⟩))
  unfold ldOk at hi
  split at hi
  all_goals first
    | (rw [act_c hd rfl (by rcases hv with q | q <;> simp [hstep, chk, hLd, okT, okB, ho, q])]; rfl)
    | cases hi
theorem st_stuck {ins : Instr} {a : Nat} {j : Int32} {ty : FieldType} {vs : List Value} {v : Value} (hd : decode bytes pc = .ok (ins, 1)) (hi : stOk ins ty = true) (ho : H[a]? = some (.array ty, vs)) (hj : ¬ (¬ j < 0 ∧ j.toNatClampNeg < vs.length)) : act ws dn k y bytes ret pc ls (v :: .int j :: .ref a :: st) H = none := by
  have hv : ¬ (¬ j < 0 ∧ j.toNatClampNeg < vs.length) := hj
  unfold stOk at hi
  split at hi
  all_goals first
    | (rw [act_c hd rfl (by simp only [hstep, chk, hSt, okT, okB, ho, if_true]; rw [if_neg (fun q => hv q.2.2)])]; rfl)
    | cases hi
theorem w_ild {ins : Instr} {a : Nat} {j : Int32} {ty : FieldType} {l : List Int32} (hd : decode bytes pc = .ok (ins, 1)) (hi : ldOk ins ty = true) (ho : H[a]? = some (.array ty, l.map Value.int)) :
    W ws dn k y bytes ret pc ls (.int j :: .ref a :: st) H Q = (inB j l ∧ W ws dn k y bytes ret (pc + 1) ls (.int (getA l j) :: st) H Q) := by
  by_cases h : inB j l
  · rw [w_ald hd hi ho h.1 (v := .int (getA l j)) (by simp [getA, h.2])]
    simp [h]
  · rw [W_stuck (ld_stuck hd hi ho (by simpa [inB] using h))]
    simp [h]
theorem w_lld {a : Nat} {j : Int32} {l : List Int64} (hd : decode bytes pc = .ok (.laload, 1)) (ho : H[a]? = some (.array .long, l.map Value.long)) :
    W ws dn k y bytes ret pc ls (.int j :: .ref a :: st) H Q = (inB j l ∧ W ws dn k y bytes ret (pc + 1) ls (.long (getL l j) :: st) H Q) := by
  by_cases h : inB j l
  · rw [w_ald hd rfl ho h.1 (v := .long (getL l j)) (by simp [getL, h.2])]
    simp [h]
  · rw [W_stuck (ld_stuck hd rfl ho (by simpa [inB] using h))]
    simp [h]
theorem w_ist {ins : Instr} {a : Nat} {j v v' : Int32} {ty : FieldType} {l : List Int32} {H' : AHeap} (hd : decode bytes pc = .ok (ins, 1)) (hi : stOk ins ty = true) (ho : H[a]? = some (.array ty, l.map Value.int)) (hk : k ≤ a) (hv : putv ty (.int v) = some (.int v')) (hH : H.set a (.array ty, (setA l j v').map Value.int) = H') :
    W ws dn k y bytes ret pc ls (.int v :: .int j :: .ref a :: st) H Q = (inB j l ∧ W ws dn k y bytes ret (pc + 1) ls st H' Q) := by
  by_cases h : inB j l
  · rw [w_ast (H' := H') hd hi ho hk h.1 (by simpa using h.2) hv (by rw [← hH, setA, List.map_set])]
    simp [h]
  · rw [W_stuck (st_stuck hd hi ho (by simpa [inB] using h))]
    simp [h]
theorem w_lst {a : Nat} {j : Int32} {v : Int64} {l : List Int64} {H' : AHeap} (hd : decode bytes pc = .ok (.lastore, 1)) (ho : H[a]? = some (.array .long, l.map Value.long)) (hk : k ≤ a) (hH : H.set a (.array .long, (setA l j v).map Value.long) = H') :
    W ws dn k y bytes ret pc ls (.long v :: .int j :: .ref a :: st) H Q = (inB j l ∧ W ws dn k y bytes ret (pc + 1) ls st H' Q) := by
  by_cases h : inB j l
  · rw [w_ast (H' := H') hd rfl ho hk h.1 (by simpa using h.2) rfl (by rw [← hH, setA, List.map_set])]
    simp [h]
  · rw [W_stuck (st_stuck hd rfl ho (by simpa [inB] using h))]
    simp [h]
theorem w_div {ins : Instr} {f : Int32 → Int32 → Int32} {x z : Int32} (hd : decode bytes pc = .ok (ins, 1)) (hx : ∀ st, xstep ins 1 pc ls st = d2 f (pc + 1) ls st) (hh : hstep ws k y ins 1 pc (.int z :: .int x :: st) H = none) (hc : cstep ws dn y ret ins 1 pc ls (.int z :: .int x :: st) H = none) :
    W ws dn k y bytes ret pc ls (.int z :: .int x :: st) H Q = (z ≠ 0 ∧ W ws dn k y bytes ret (pc + 1) ls (.int (f x z) :: st) H Q) := by
  by_cases h : z = 0
  · rw [W_stuck (by rw [act_c hd (by rw [hx]; simp [d2, h]) hh, hc])]; simp [h]
  · rw [w_x (pc' := pc + 1) (ls' := ls) (st' := .int (f x z) :: st) hd (by rw [hx]; simp only [d2, h, if_false])]; simp [h]
/-- a field's array made in a constructor -/
theorem w_iarr {i j p1 p2 p3 : Nat} {C : String} {vs : List Value} {r : AHeap} {n : Int32} {v : Value} {aty : ArrayType} {ty at' : FieldType} {l0 : Slot} {lr : List Slot} {ins : Instr} {len : Nat} {b : Nat} (hl : l0 = .val (.ref b)) (hH : H.length = b) (hk : k ≤ b)
    (d0 : decode bytes pc = .ok (.aload_n 0, 1)) (e0 : pc + 1 = p1) (dn1 : decode bytes p1 = .ok (ins, len)) (hx : ∀ st, xstep ins len p1 (l0 :: lr) st = some (p2, l0 :: lr, v :: st)) (hv : v = .int n) (d2' : decode bytes p2 = .ok (.newarray aty, 2)) (ht : newarray.typeOf aty = ty) (hr : hasArr ws ty = true) (hn : ¬ n < 0) (hb : n.toNatClampNeg * 8 ≤ 536870912) (e3 : p2 + 2 = p3)
    (d3 : decode bytes p3 = .ok (.putfield i, 3)) (hp : pfR ws y.cls y.name i = some (C, j, .array at')) (hj : j < vs.length) :
    W ws dn k y bytes ret pc (l0 :: lr) [] (H ++ (.object C, vs) :: r) Q = W ws dn k y bytes ret (p3 + 3) (l0 :: lr) [] (H ++ (.object C, vs.set j (.ref (b + (r.length + 1)))) :: (r ++ [(.array ty, List.replicate n.toNatClampNeg (defaultValue ty))])) Q := by
  subst hl e0 e3 hv hH
  rw [w_x d0 (ls' := .val (.ref H.length) :: lr) (st' := [.ref H.length]) (pc' := pc + 1) rfl, w_x dn1 (hx _), w_newA d2' ht hr hn hb]
  have e1 : (H ++ (FieldType.object C, vs) :: r).length = H.length + (r.length + 1) := by simp
  rw [e1, w_put d3 hp (vs := vs) (H' := H ++ (.object C, vs.set j (.ref (H.length + (r.length + 1)))) :: (r ++ [(.array ty, List.replicate n.toNatClampNeg (defaultValue ty))])) (by simp) hk hj rfl (by simp)]
/-- a field's plain value put at a constructor's head -/
theorem w_iint {i j p1 p2 : Nat} {C : String} {vs : List Value} {r : AHeap} {v v0 v' : Value} {ty : FieldType} {l0 : Slot} {lr : List Slot} {ins : Instr} {len : Nat} {b : Nat} (hl : l0 = .val (.ref b)) (hH : H.length = b) (hk : k ≤ b)
    (d0 : decode bytes pc = .ok (.aload_n 0, 1)) (e0 : pc + 1 = p1) (dn1 : decode bytes p1 = .ok (ins, len)) (hx : ∀ st, xstep ins len p1 (l0 :: lr) st = some (p2, l0 :: lr, v0 :: st)) (hv : v0 = v)
    (d3 : decode bytes p2 = .ok (.putfield i, 3)) (hp : pfR ws y.cls y.name i = some (C, j, ty)) (hv' : putv ty v = some v') (hj : j < vs.length) :
    W ws dn k y bytes ret pc (l0 :: lr) [] (H ++ (.object C, vs) :: r) Q = W ws dn k y bytes ret (p2 + 3) (l0 :: lr) [] (H ++ (.object C, vs.set j v') :: r) Q := by
  subst hl e0 hv hH
  rw [w_x d0 (ls' := .val (.ref H.length) :: lr) (st' := [.ref H.length]) (pc' := pc + 1) rfl, w_x dn1 (hx _)]
  rw [w_put d3 hp (vs := vs) (H' := H ++ (.object C, vs.set j v') :: r) (by simp) hk hj hv' (by simp)]
end
end Jvm.Own
namespace Jvm.Own
open Sem ClassFile Op Lib Jvm.Stand Jvm.Free Jvm.LawKit Jvm.RoadKit
theorem getA_rep (n : Nat) (j : Int32) : getA (List.replicate n 0) j = 0 := by
  simp only [getA, List.getD_eq_getElem?_getD, List.getElem?_replicate]
  split <;> rfl
/-- the array's words as plain ints -/
theorem script_of {s : State} {a : Addr} {c : Cell} (hf : Fit s) (A : Arr s s.heap a c .int) (hl : c.slots.size < 2 ^ 31) : ∃ vs : List Int32, c.slots = (vs.map Value.int).toArray := by
  have h : ∀ v ∈ c.slots.toList, ∃ x : Int32, v = .int x := fun v hv => by
    obtain ⟨i, hi, e⟩ := List.getElem_of_mem hv
    have hi' : i < c.slots.size := by simpa using hi
    have e1 : (Nat.toInt32 i).toNatClampNeg = i := by simp only [Int32.toNatClampNeg, len_toInt (Nat.lt_trans hi' hl)]; rfl
    obtain ⟨w, h1, h2⟩ := elem_fit hf A (idx_in hi' hl)
    rw [e1] at h1
    have : w = v := by rw [Array.getElem?_eq_getElem hi'] at h1; rw [← e]; simpa using (Option.some.inj h1).symm
    subst this
    exact fit_I h2 (by simp)
  have g : ∀ l : List Value, (∀ v ∈ l, ∃ x : Int32, v = .int x) → ∃ vs : List Int32, l = vs.map Value.int := fun l => by
    induction l with
    | nil => exact fun _ => ⟨[], rfl⟩
    | cons v r ih =>
      intro q
      obtain ⟨x, rfl⟩ := q _ (List.mem_cons_self ..)
      obtain ⟨vs, e⟩ := ih fun w hw => q w (List.mem_cons_of_mem _ hw)
      exact ⟨x :: vs, by rw [e]; rfl⟩
  obtain ⟨vs, e⟩ := g _ h
  exact ⟨vs, by rw [← e]⟩
end Jvm.Own
namespace Jvm.Own
open Sem ClassFile Op Lib Jvm.Stand Jvm.Free Jvm.LawKit Jvm.RoadKit
/-! OWN 8: small facts on arrays and ints -/
theorem toNat_eq (j : Int32) : j.toNatClampNeg = j.toInt.toNat := rfl
theorem lt_i {x y : Int32} : x < y ↔ x.toInt < y.toInt := Int32.lt_iff_toInt_lt
theorem inB_iff {α : Type} {j : Int32} {l : List α} : inB j l ↔ 0 ≤ j.toInt ∧ j.toInt < (l.length : Int) := by
  have e0 : (0 : Int32).toInt = 0 := rfl
  unfold inB
  rw [lt_i, toNat_eq, e0]
  omega
theorem inB_lt {α : Type} {j n : Int32} {l : List α} (hl : (l.length : Int) = n.toInt) (h0 : ¬ j < 0) (h1 : j < n) : inB j l := by
  have e0 : (0 : Int32).toInt = 0 := rfl
  rw [inB_iff]
  rw [lt_i] at h0 h1
  rw [e0] at h0
  omega
theorem setA_len {α : Type} (l : List α) (j : Int32) (v : α) : (setA l j v).length = l.length := List.length_set
theorem getA_set {l : List Int32} {i j v : Int32} (h : inB i l) : getA (setA l i v) j = if j.toNatClampNeg = i.toNatClampNeg then v else getA l j := by
  simp only [getA, setA, List.getD_eq_getElem?_getD, List.getElem?_set]
  by_cases e : j.toNatClampNeg = i.toNatClampNeg
  · rw [e]; simp [h.2]
  · simp [e, Ne.symm e]
theorem getA_set2 (l : List Int32) (i j v : Int32) : getA (setA l i v) j = if j.toNatClampNeg = i.toNatClampNeg ∧ i.toNatClampNeg < l.length then v else getA l j := by
  simp only [getA, setA, List.getD_eq_getElem?_getD, List.getElem?_set]
  by_cases e : j.toNatClampNeg = i.toNatClampNeg
  · rw [e]
    by_cases q : i.toNatClampNeg < l.length <;> simp [q]
  · simp [e, Ne.symm e]
theorem len_ou {B A : Nat → List Int32} {j : Nat} {l : List Int32} (h : ∀ i, (A i).length = (B i).length) (hl : l.length = (B j).length) : ∀ i, (ou A j l i).length = (B i).length := fun i => by
  rw [ou_a]
  split
  · rename_i e; rw [e]; exact hl
  · exact h i
end Jvm.Own
namespace Jvm.Own
open Sem ClassFile Op Lib Jvm.Stand Jvm.Free Jvm.LawKit Jvm.RoadKit
/-! OWN 9: a normal form of states; masks and ranges -/
theorem ou_same {α : Type} (s : Nat → α) (i : Nat) (v w : α) : ou (ou s i v) i w = ou s i w := by
  funext j
  simp only [ou_a]
  by_cases h : j = i <;> simp [h]
theorem ou_comm {α : Type} {s : Nat → α} {i j : Nat} {v w : α} (h : j < i) : ou (ou s i v) j w = ou (ou s j w) (i + 0) v := by
  show ou (ou s i v) j w = ou (ou s j w) i v
  funext k
  simp only [ou_a]
  by_cases h1 : k = j
  · have h2 : ¬ k = i := by omega
    simp [h1]
    intro h3; omega
  · simp [h1]
theorem setA_same {α : Type} (l : List α) (i : Int32) (v w : α) : setA (setA l i v) i w = setA l i w := by
  simp only [setA, List.set_set]
theorem clamp_ne {i j : Int32} (h0 : ¬ j < 0) (h : j < i) : j.toNatClampNeg ≠ i.toNatClampNeg := by
  have e0 : (0 : Int32).toInt = 0 := rfl
  rw [lt_i] at *
  rw [toNat_eq, toNat_eq]
  omega
theorem setA_comm {α : Type} {l : List α} {i j : Int32} {v w : α} (h0 : ¬ j < 0) (h : j < i) : setA (setA l i v) j w = setA (setA l j w) (i + 0) v := by
  rw [Int32.add_zero]
  simp only [setA]
  exact List.set_comm _ _ (Ne.symm (clamp_ne h0 h))
theorem lt_irr (x : Int32) : (x < x) = False := by
  apply propext
  rw [lt_i]
  constructor
  · intro h; omega
  · exact False.elim
theorem bit1 (x : Int32) : x &&& 1 = 0 ∨ x &&& 1 = 1 := by
  have h : (x &&& 1).toBitVec.toNat = x.toBitVec.toNat % 2 := by
    rw [Int32.toBitVec_and, BitVec.toNat_and]
    exact Nat.and_one_is_mod _
  rcases Nat.mod_two_eq_zero_or_one x.toBitVec.toNat with e | e
  · exact Or.inl (Int32.toBitVec_inj.mp (BitVec.eq_of_toNat_eq (by rw [h, e]; rfl)))
  · exact Or.inr (Int32.toBitVec_inj.mp (BitVec.eq_of_toNat_eq (by rw [h, e]; rfl)))
theorem and_bd (x m : Int32) (hm : m.toBitVec.toNat < 2147483648) : 0 ≤ (x &&& m).toInt ∧ (x &&& m).toInt ≤ (m.toBitVec.toNat : Int) := by
  have h : (x &&& m).toBitVec.toNat ≤ m.toBitVec.toNat := by
    rw [Int32.toBitVec_and, BitVec.toNat_and]
    exact Nat.and_le_right
  have e : (x &&& m).toInt = ((x &&& m).toBitVec.toNat : Int) := BitVec.toInt_eq_toNat_of_lt (by omega)
  rw [e]
  omega
theorem rng {x : Int32} {n : Nat} (h0 : 0 ≤ x.toInt) (h1 : x.toInt < n) : ∃ k, k < n ∧ x = Int32.ofNat k := by
  have e : (x.toInt.toNat : Int) = x.toInt := Int.toNat_of_nonneg h0
  refine ⟨x.toInt.toNat, by omega, ?_⟩
  have e2 : Int32.ofNat x.toInt.toNat = Int32.ofInt (x.toInt.toNat : Int) := rfl
  rw [e2, e, Int32.ofInt_toInt]
theorem getL_rep (n : Nat) (j : Int32) : getL (List.replicate n 0) j = 0 := by
  simp only [getL, List.getD_eq_getElem?_getD, List.getElem?_replicate]
  split <;> rfl
theorem getL_set2 (l : List Int64) (i j : Int32) (v : Int64) : getL (setA l i v) j = if j.toNatClampNeg = i.toNatClampNeg ∧ i.toNatClampNeg < l.length then v else getL l j := by
  simp only [getL, setA, List.getD_eq_getElem?_getD, List.getElem?_set]
  by_cases e : j.toNatClampNeg = i.toNatClampNeg
  · rw [e]
    by_cases q : i.toNatClampNeg < l.length <;> simp [q]
  · simp [e, Ne.symm e]
theorem add_i {a b : Int32} (h : -2147483648 ≤ a.toInt + b.toInt) (h' : a.toInt + b.toInt < 2147483648) : (a + b).toInt = a.toInt + b.toInt := by
  rw [Int32.toInt_add]
  have e : ((2 ^ 32 : Nat) : Int) = 4294967296 := rfl
  exact Int.bmod_eq_of_le (by rw [e]; omega) (by rw [e]; omega)
theorem sub_i {a b : Int32} (h : -2147483648 ≤ a.toInt - b.toInt) (h' : a.toInt - b.toInt < 2147483648) : (a - b).toInt = a.toInt - b.toInt := by
  rw [Int32.toInt_sub]
  have e : ((2 ^ 32 : Nat) : Int) = 4294967296 := rfl
  exact Int.bmod_eq_of_le (by rw [e]; omega) (by rw [e]; omega)
theorem mul_i {a b : Int32} (h : -2147483648 ≤ a.toInt * b.toInt) (h' : a.toInt * b.toInt < 2147483648) : (a * b).toInt = a.toInt * b.toInt := by
  rw [Int32.toInt_mul]
  have e : ((2 ^ 32 : Nat) : Int) = 4294967296 := rfl
  exact Int.bmod_eq_of_le (by rw [e]; omega) (by rw [e]; omega)
theorem i_0 : (0 : Int32).toInt = 0 := rfl
theorem i_1 : (1 : Int32).toInt = 1 := rfl
theorem add1_i {a : Int32} (h : a.toInt < 2147483647) : (a + 1).toInt = a.toInt + 1 := by
  have := Int32.le_toInt a
  exact add_i (by rw [i_1]; omega) (by rw [i_1]; omega)
theorem nn_i {a : Int32} : ¬ a < 0 ↔ 0 ≤ a.toInt := by rw [lt_i, i_0]; omega
theorem succ_nn {a : Int32} (h0 : ¬ a < 0) (h : a.toInt < 2147483647) : ¬ a + 1 < 0 := by
  rw [nn_i] at *
  rw [add1_i h]
  omega
theorem inB_set {α : Type} {l : List α} {i j : Int32} {v : α} : inB j (setA l i v) = inB j l := by
  simp only [inB, setA_len]
theorem pad_1 (c : FieldType × List Value) : pad 1 [c] = [c] := rfl
def okS (l : Slot) : Prop := l = .unset ∨ ∃ z : Int32, l = .val (.int z)
theorem okS_u : okS .unset := Or.inl rfl
theorem okS_i (z : Int32) : okS (.val (.int z)) := Or.inr ⟨z, rfl⟩
end Jvm.Own
namespace Jvm.Pilot.@@N@@
open Jvm Jvm.ClassFile Sem Op Lib Jvm.Free Jvm.Stand Jvm.LawKit Jvm.RoadKit Bundle Jvm.Own Jvm.Pilot.@@N@@.Jvm.D
/-- frames and words that each method asks -/
def dn : Dn := [(⟨"RetimingEngine", "<init>", "()V"⟩, 1, 12), (⟨"RetimingEngine", "addVertex", "(III)I"⟩, 0, 0), (⟨"RetimingEngine", "addEdge", "(III)I"⟩, 0, 0), (⟨"RetimingEngine", "edgeCount", "()I"⟩, 0, 0), (⟨"RetimingEngine", "retime", "()I"⟩, 3, 49), (⟨"RetimingEngine", "topo", "(I)Z"⟩, 1, 14), (⟨"RetimingEngine", "period", "(I)I"⟩, 1, 14), (⟨"RetimingEngine", "computePairs", "()V"⟩, 2, 32), (⟨"RetimingEngine", "relaxVia", "(I)V"⟩, 1, 15), (⟨"RetimingEngine", "offer", "(III)V"⟩, 0, 0), (⟨"RetimingEngine", "searchMin", "()I"⟩, 2, 32), (⟨"RetimingEngine", "feasible", "(I)Z"⟩, 1, 18), (⟨"RetimingEngine", "relaxPass", "(I)Z"⟩, 0, 0), (⟨"RetimingEngine", "applyLags", "()V"⟩, 0, 0), (⟨"RetimingEngine", "retimedRegs", "(I)I"⟩, 0, 0), (⟨"RetimingEngine", "lag", "(I)I"⟩, 0, 0), (⟨"RetimingEngine", "minPeriod", "()I"⟩, 0, 0), (⟨"RetimingEngine", "xOf", "(II)I"⟩, 0, 0), (⟨"RetimingEngineL2", "law", "(III)Z"⟩, 4, 61)]
/- scalars: 0=n 1=m 2=inCount 3=sim 4=retimed 5=pmin 6=origPeriod 7=retPeriod; arrays: 0=vop@1 1=vdel@2 2=vk@3 3=esrc@4 4=edst@5 5=ereg@6 6=enew@7 7=inputs@8 8=outs@9 9=wt@10 10=dd@11 11=reach@12 12=dist@13 13=lagv@14 14=order@15 15=indeg@16 16=arr@17 17=sval@18; longs: []; long arrays: [] -/
def objv (b : Nat) (s : Nat → Int32) : List Value := [.ref (b + 1), .ref (b + 2), .ref (b + 3), .ref (b + 4), .ref (b + 5), .ref (b + 6), .ref (b + 7), .ref (b + 8), .ref (b + 9), .ref (b + 10), .ref (b + 11), .ref (b + 12), .ref (b + 13), .ref (b + 14), .ref (b + 15), .ref (b + 16), .ref (b + 17), .ref (b + 18), .int (s 0), .int (s 1), .int (s 2), .int (s 3), .int (s 4), .int (s 6), .int (s 5), .int (s 7)]
def put (b : Nat) (pre : AHeap) (s : Nat → Int32) (A : Nat → List Int32) (post : AHeap) : AHeap := pad b pre ++ ((.object "RetimingEngine", objv b s) :: (.array .int, (A 0).map Value.int) :: (.array .int, (A 1).map Value.int) :: (.array .int, (A 2).map Value.int) :: (.array .int, (A 3).map Value.int) :: (.array .int, (A 4).map Value.int) :: (.array .int, (A 5).map Value.int) :: (.array .int, (A 6).map Value.int) :: (.array .int, (A 7).map Value.int) :: (.array .int, (A 8).map Value.int) :: (.array .int, (A 9).map Value.int) :: (.array .int, (A 10).map Value.int) :: (.array .boolean, (A 11).map Value.int) :: (.array .int, (A 12).map Value.int) :: (.array .int, (A 13).map Value.int) :: (.array .int, (A 14).map Value.int) :: (.array .int, (A 15).map Value.int) :: (.array .int, (A 16).map Value.int) :: (.array .int, (A 17).map Value.int) :: post)
theorem put_o {b : Nat} {pre : AHeap} {s : Nat → Int32} {A : Nat → List Int32} {post : AHeap} : (put b pre s A post)[b]? = some (.object "RetimingEngine", objv b s) := pad_get0 _ _ _
theorem put_a0 {b : Nat} {pre : AHeap} {s : Nat → Int32} {A : Nat → List Int32} {post : AHeap} : (put b pre s A post)[b + 1]? = some (.array .int, (A 0).map Value.int) := pad_get _ _ _ 1
theorem put_w0 {b : Nat} {pre : AHeap} {s : Nat → Int32} {A : Nat → List Int32} {post : AHeap} {l : List Int32} : (put b pre s A post).set (b + 1) (.array .int, l.map Value.int) = put b pre s (ou A 0 l) post := pad_set _ _ _ 1 _
theorem put_a1 {b : Nat} {pre : AHeap} {s : Nat → Int32} {A : Nat → List Int32} {post : AHeap} : (put b pre s A post)[b + 2]? = some (.array .int, (A 1).map Value.int) := pad_get _ _ _ 2
theorem put_w1 {b : Nat} {pre : AHeap} {s : Nat → Int32} {A : Nat → List Int32} {post : AHeap} {l : List Int32} : (put b pre s A post).set (b + 2) (.array .int, l.map Value.int) = put b pre s (ou A 1 l) post := pad_set _ _ _ 2 _
theorem put_a2 {b : Nat} {pre : AHeap} {s : Nat → Int32} {A : Nat → List Int32} {post : AHeap} : (put b pre s A post)[b + 3]? = some (.array .int, (A 2).map Value.int) := pad_get _ _ _ 3
theorem put_w2 {b : Nat} {pre : AHeap} {s : Nat → Int32} {A : Nat → List Int32} {post : AHeap} {l : List Int32} : (put b pre s A post).set (b + 3) (.array .int, l.map Value.int) = put b pre s (ou A 2 l) post := pad_set _ _ _ 3 _
theorem put_a3 {b : Nat} {pre : AHeap} {s : Nat → Int32} {A : Nat → List Int32} {post : AHeap} : (put b pre s A post)[b + 4]? = some (.array .int, (A 3).map Value.int) := pad_get _ _ _ 4
theorem put_w3 {b : Nat} {pre : AHeap} {s : Nat → Int32} {A : Nat → List Int32} {post : AHeap} {l : List Int32} : (put b pre s A post).set (b + 4) (.array .int, l.map Value.int) = put b pre s (ou A 3 l) post := pad_set _ _ _ 4 _
theorem put_a4 {b : Nat} {pre : AHeap} {s : Nat → Int32} {A : Nat → List Int32} {post : AHeap} : (put b pre s A post)[b + 5]? = some (.array .int, (A 4).map Value.int) := pad_get _ _ _ 5
theorem put_w4 {b : Nat} {pre : AHeap} {s : Nat → Int32} {A : Nat → List Int32} {post : AHeap} {l : List Int32} : (put b pre s A post).set (b + 5) (.array .int, l.map Value.int) = put b pre s (ou A 4 l) post := pad_set _ _ _ 5 _
theorem put_a5 {b : Nat} {pre : AHeap} {s : Nat → Int32} {A : Nat → List Int32} {post : AHeap} : (put b pre s A post)[b + 6]? = some (.array .int, (A 5).map Value.int) := pad_get _ _ _ 6
theorem put_w5 {b : Nat} {pre : AHeap} {s : Nat → Int32} {A : Nat → List Int32} {post : AHeap} {l : List Int32} : (put b pre s A post).set (b + 6) (.array .int, l.map Value.int) = put b pre s (ou A 5 l) post := pad_set _ _ _ 6 _
theorem put_a6 {b : Nat} {pre : AHeap} {s : Nat → Int32} {A : Nat → List Int32} {post : AHeap} : (put b pre s A post)[b + 7]? = some (.array .int, (A 6).map Value.int) := pad_get _ _ _ 7
theorem put_w6 {b : Nat} {pre : AHeap} {s : Nat → Int32} {A : Nat → List Int32} {post : AHeap} {l : List Int32} : (put b pre s A post).set (b + 7) (.array .int, l.map Value.int) = put b pre s (ou A 6 l) post := pad_set _ _ _ 7 _
theorem put_a7 {b : Nat} {pre : AHeap} {s : Nat → Int32} {A : Nat → List Int32} {post : AHeap} : (put b pre s A post)[b + 8]? = some (.array .int, (A 7).map Value.int) := pad_get _ _ _ 8
theorem put_w7 {b : Nat} {pre : AHeap} {s : Nat → Int32} {A : Nat → List Int32} {post : AHeap} {l : List Int32} : (put b pre s A post).set (b + 8) (.array .int, l.map Value.int) = put b pre s (ou A 7 l) post := pad_set _ _ _ 8 _
theorem put_a8 {b : Nat} {pre : AHeap} {s : Nat → Int32} {A : Nat → List Int32} {post : AHeap} : (put b pre s A post)[b + 9]? = some (.array .int, (A 8).map Value.int) := pad_get _ _ _ 9
theorem put_w8 {b : Nat} {pre : AHeap} {s : Nat → Int32} {A : Nat → List Int32} {post : AHeap} {l : List Int32} : (put b pre s A post).set (b + 9) (.array .int, l.map Value.int) = put b pre s (ou A 8 l) post := pad_set _ _ _ 9 _
theorem put_a9 {b : Nat} {pre : AHeap} {s : Nat → Int32} {A : Nat → List Int32} {post : AHeap} : (put b pre s A post)[b + 10]? = some (.array .int, (A 9).map Value.int) := pad_get _ _ _ 10
theorem put_w9 {b : Nat} {pre : AHeap} {s : Nat → Int32} {A : Nat → List Int32} {post : AHeap} {l : List Int32} : (put b pre s A post).set (b + 10) (.array .int, l.map Value.int) = put b pre s (ou A 9 l) post := pad_set _ _ _ 10 _
theorem put_a10 {b : Nat} {pre : AHeap} {s : Nat → Int32} {A : Nat → List Int32} {post : AHeap} : (put b pre s A post)[b + 11]? = some (.array .int, (A 10).map Value.int) := pad_get _ _ _ 11
theorem put_w10 {b : Nat} {pre : AHeap} {s : Nat → Int32} {A : Nat → List Int32} {post : AHeap} {l : List Int32} : (put b pre s A post).set (b + 11) (.array .int, l.map Value.int) = put b pre s (ou A 10 l) post := pad_set _ _ _ 11 _
theorem put_a11 {b : Nat} {pre : AHeap} {s : Nat → Int32} {A : Nat → List Int32} {post : AHeap} : (put b pre s A post)[b + 12]? = some (.array .boolean, (A 11).map Value.int) := pad_get _ _ _ 12
theorem put_w11 {b : Nat} {pre : AHeap} {s : Nat → Int32} {A : Nat → List Int32} {post : AHeap} {l : List Int32} : (put b pre s A post).set (b + 12) (.array .boolean, l.map Value.int) = put b pre s (ou A 11 l) post := pad_set _ _ _ 12 _
theorem put_a12 {b : Nat} {pre : AHeap} {s : Nat → Int32} {A : Nat → List Int32} {post : AHeap} : (put b pre s A post)[b + 13]? = some (.array .int, (A 12).map Value.int) := pad_get _ _ _ 13
theorem put_w12 {b : Nat} {pre : AHeap} {s : Nat → Int32} {A : Nat → List Int32} {post : AHeap} {l : List Int32} : (put b pre s A post).set (b + 13) (.array .int, l.map Value.int) = put b pre s (ou A 12 l) post := pad_set _ _ _ 13 _
theorem put_a13 {b : Nat} {pre : AHeap} {s : Nat → Int32} {A : Nat → List Int32} {post : AHeap} : (put b pre s A post)[b + 14]? = some (.array .int, (A 13).map Value.int) := pad_get _ _ _ 14
theorem put_w13 {b : Nat} {pre : AHeap} {s : Nat → Int32} {A : Nat → List Int32} {post : AHeap} {l : List Int32} : (put b pre s A post).set (b + 14) (.array .int, l.map Value.int) = put b pre s (ou A 13 l) post := pad_set _ _ _ 14 _
theorem put_a14 {b : Nat} {pre : AHeap} {s : Nat → Int32} {A : Nat → List Int32} {post : AHeap} : (put b pre s A post)[b + 15]? = some (.array .int, (A 14).map Value.int) := pad_get _ _ _ 15
theorem put_w14 {b : Nat} {pre : AHeap} {s : Nat → Int32} {A : Nat → List Int32} {post : AHeap} {l : List Int32} : (put b pre s A post).set (b + 15) (.array .int, l.map Value.int) = put b pre s (ou A 14 l) post := pad_set _ _ _ 15 _
theorem put_a15 {b : Nat} {pre : AHeap} {s : Nat → Int32} {A : Nat → List Int32} {post : AHeap} : (put b pre s A post)[b + 16]? = some (.array .int, (A 15).map Value.int) := pad_get _ _ _ 16
theorem put_w15 {b : Nat} {pre : AHeap} {s : Nat → Int32} {A : Nat → List Int32} {post : AHeap} {l : List Int32} : (put b pre s A post).set (b + 16) (.array .int, l.map Value.int) = put b pre s (ou A 15 l) post := pad_set _ _ _ 16 _
theorem put_a16 {b : Nat} {pre : AHeap} {s : Nat → Int32} {A : Nat → List Int32} {post : AHeap} : (put b pre s A post)[b + 17]? = some (.array .int, (A 16).map Value.int) := pad_get _ _ _ 17
theorem put_w16 {b : Nat} {pre : AHeap} {s : Nat → Int32} {A : Nat → List Int32} {post : AHeap} {l : List Int32} : (put b pre s A post).set (b + 17) (.array .int, l.map Value.int) = put b pre s (ou A 16 l) post := pad_set _ _ _ 17 _
theorem put_a17 {b : Nat} {pre : AHeap} {s : Nat → Int32} {A : Nat → List Int32} {post : AHeap} : (put b pre s A post)[b + 18]? = some (.array .int, (A 17).map Value.int) := pad_get _ _ _ 18
theorem put_w17 {b : Nat} {pre : AHeap} {s : Nat → Int32} {A : Nat → List Int32} {post : AHeap} {l : List Int32} : (put b pre s A post).set (b + 18) (.array .int, l.map Value.int) = put b pre s (ou A 17 l) post := pad_set _ _ _ 18 _
theorem put_s0 {b : Nat} {pre : AHeap} {s : Nat → Int32} {A : Nat → List Int32} {post : AHeap} {v : Int32} : (put b pre s A post).set b (.object "RetimingEngine", (objv b s).set 18 (.int v)) = put b pre (ou s 0 v) A post := pad_set0 _ _ _ _
theorem put_s1 {b : Nat} {pre : AHeap} {s : Nat → Int32} {A : Nat → List Int32} {post : AHeap} {v : Int32} : (put b pre s A post).set b (.object "RetimingEngine", (objv b s).set 19 (.int v)) = put b pre (ou s 1 v) A post := pad_set0 _ _ _ _
theorem put_s2 {b : Nat} {pre : AHeap} {s : Nat → Int32} {A : Nat → List Int32} {post : AHeap} {v : Int32} : (put b pre s A post).set b (.object "RetimingEngine", (objv b s).set 20 (.int v)) = put b pre (ou s 2 v) A post := pad_set0 _ _ _ _
theorem put_s3 {b : Nat} {pre : AHeap} {s : Nat → Int32} {A : Nat → List Int32} {post : AHeap} {v : Int32} : (put b pre s A post).set b (.object "RetimingEngine", (objv b s).set 21 (.int v)) = put b pre (ou s 3 v) A post := pad_set0 _ _ _ _
theorem put_s4 {b : Nat} {pre : AHeap} {s : Nat → Int32} {A : Nat → List Int32} {post : AHeap} {v : Int32} : (put b pre s A post).set b (.object "RetimingEngine", (objv b s).set 22 (.int v)) = put b pre (ou s 4 v) A post := pad_set0 _ _ _ _
theorem put_s6 {b : Nat} {pre : AHeap} {s : Nat → Int32} {A : Nat → List Int32} {post : AHeap} {v : Int32} : (put b pre s A post).set b (.object "RetimingEngine", (objv b s).set 23 (.int v)) = put b pre (ou s 6 v) A post := pad_set0 _ _ _ _
theorem put_s5 {b : Nat} {pre : AHeap} {s : Nat → Int32} {A : Nat → List Int32} {post : AHeap} {v : Int32} : (put b pre s A post).set b (.object "RetimingEngine", (objv b s).set 24 (.int v)) = put b pre (ou s 5 v) A post := pad_set0 _ _ _ _
theorem put_s7 {b : Nat} {pre : AHeap} {s : Nat → Int32} {A : Nat → List Int32} {post : AHeap} {v : Int32} : (put b pre s A post).set b (.object "RetimingEngine", (objv b s).set 25 (.int v)) = put b pre (ou s 7 v) A post := pad_set0 _ _ _ _
theorem put_len {b : Nat} {pre : AHeap} {s : Nat → Int32} {A : Nat → List Int32} {post : AHeap} : (put b pre s A post).length = b + 19 + post.length := by rw [put, List.length_append, pad_len]; simp only [List.length_cons]; omega
theorem inst0 : rInst tables_1 "RetimingEngine" = some 26 := by decide +kernel
theorem put_tot {b : Nat} {pre : AHeap} {s : Nat → Int32} {A : Nat → List Int32} {post : AHeap} : tot tables_1 (put b pre s A post) = tot tables_1 (pad b pre) + (26 + ((A 0).length + ((A 1).length + ((A 2).length + ((A 3).length + ((A 4).length + ((A 5).length + ((A 6).length + ((A 7).length + ((A 8).length + ((A 9).length + ((A 10).length + ((A 11).length + ((A 12).length + ((A 13).length + ((A 14).length + ((A 15).length + ((A 16).length + ((A 17).length + tot tables_1 post))))))))))))))))))) := by rw [put, tot_append]; simp only [tot_cons, cost, List.length_map, inst0, Option.getD_some]
def D0 : List Value := [.null, .null, .null, .null, .null, .null, .null, .null, .null, .null, .null, .null, .null, .null, .null, .null, .null, .null, .int 0, .int 0, .int 0, .int 0, .int 0, .int 0, .int 0, .int 0]
theorem lay0 : (olay tables_1 "RetimingEngine").map dflt = D0 := by decide +kernel
abbrev y0 : MethodName := ⟨"RetimingEngine", "<init>", "()V"⟩
abbrev kb0 : ByteArray := prog_1_method_1_code
def M0 (pc : Nat) (ls : List Slot) (st : List Value) (H : AHeap) (Q : Option Value → AHeap → Prop) : Prop := W tables_1 dn 0 y0 prog_1_method_1_code none pc ls st H Q
abbrev y1 : MethodName := ⟨"RetimingEngine", "addVertex", "(III)I"⟩
abbrev kb1 : ByteArray := prog_1_method_2_code
def M1 (pc : Nat) (ls : List Slot) (st : List Value) (H : AHeap) (Q : Option Value → AHeap → Prop) : Prop := W tables_1 dn 0 y1 prog_1_method_2_code (some .int) pc ls st H Q
abbrev y2 : MethodName := ⟨"RetimingEngine", "addEdge", "(III)I"⟩
abbrev kb2 : ByteArray := prog_1_method_3_code
def M2 (pc : Nat) (ls : List Slot) (st : List Value) (H : AHeap) (Q : Option Value → AHeap → Prop) : Prop := W tables_1 dn 0 y2 prog_1_method_3_code (some .int) pc ls st H Q
abbrev y3 : MethodName := ⟨"RetimingEngine", "edgeCount", "()I"⟩
abbrev kb3 : ByteArray := prog_1_method_5_code
def M3 (pc : Nat) (ls : List Slot) (st : List Value) (H : AHeap) (Q : Option Value → AHeap → Prop) : Prop := W tables_1 dn 0 y3 prog_1_method_5_code (some .int) pc ls st H Q
abbrev y4 : MethodName := ⟨"RetimingEngine", "retime", "()I"⟩
abbrev kb4 : ByteArray := prog_1_method_4_code
def M4 (pc : Nat) (ls : List Slot) (st : List Value) (H : AHeap) (Q : Option Value → AHeap → Prop) : Prop := W tables_1 dn 0 y4 prog_1_method_4_code (some .int) pc ls st H Q
abbrev y5 : MethodName := ⟨"RetimingEngine", "topo", "(I)Z"⟩
abbrev kb5 : ByteArray := prog_1_method_20_code
def M5 (pc : Nat) (ls : List Slot) (st : List Value) (H : AHeap) (Q : Option Value → AHeap → Prop) : Prop := W tables_1 dn 0 y5 prog_1_method_20_code (some .boolean) pc ls st H Q
abbrev y6 : MethodName := ⟨"RetimingEngine", "period", "(I)I"⟩
abbrev kb6 : ByteArray := prog_1_method_21_code
def M6 (pc : Nat) (ls : List Slot) (st : List Value) (H : AHeap) (Q : Option Value → AHeap → Prop) : Prop := W tables_1 dn 0 y6 prog_1_method_21_code (some .int) pc ls st H Q
abbrev y7 : MethodName := ⟨"RetimingEngine", "computePairs", "()V"⟩
abbrev kb7 : ByteArray := prog_1_method_23_code
def M7 (pc : Nat) (ls : List Slot) (st : List Value) (H : AHeap) (Q : Option Value → AHeap → Prop) : Prop := W tables_1 dn 0 y7 prog_1_method_23_code none pc ls st H Q
abbrev y8 : MethodName := ⟨"RetimingEngine", "relaxVia", "(I)V"⟩
abbrev kb8 : ByteArray := prog_1_method_24_code
def M8 (pc : Nat) (ls : List Slot) (st : List Value) (H : AHeap) (Q : Option Value → AHeap → Prop) : Prop := W tables_1 dn 0 y8 prog_1_method_24_code none pc ls st H Q
abbrev y9 : MethodName := ⟨"RetimingEngine", "offer", "(III)V"⟩
abbrev kb9 : ByteArray := prog_1_method_22_code
def M9 (pc : Nat) (ls : List Slot) (st : List Value) (H : AHeap) (Q : Option Value → AHeap → Prop) : Prop := W tables_1 dn 0 y9 prog_1_method_22_code none pc ls st H Q
abbrev y10 : MethodName := ⟨"RetimingEngine", "searchMin", "()I"⟩
abbrev kb10 : ByteArray := prog_1_method_25_code
def M10 (pc : Nat) (ls : List Slot) (st : List Value) (H : AHeap) (Q : Option Value → AHeap → Prop) : Prop := W tables_1 dn 0 y10 prog_1_method_25_code (some .int) pc ls st H Q
abbrev y11 : MethodName := ⟨"RetimingEngine", "feasible", "(I)Z"⟩
abbrev kb11 : ByteArray := prog_1_method_26_code
def M11 (pc : Nat) (ls : List Slot) (st : List Value) (H : AHeap) (Q : Option Value → AHeap → Prop) : Prop := W tables_1 dn 0 y11 prog_1_method_26_code (some .boolean) pc ls st H Q
abbrev y12 : MethodName := ⟨"RetimingEngine", "relaxPass", "(I)Z"⟩
abbrev kb12 : ByteArray := prog_1_method_27_code
def M12 (pc : Nat) (ls : List Slot) (st : List Value) (H : AHeap) (Q : Option Value → AHeap → Prop) : Prop := W tables_1 dn 0 y12 prog_1_method_27_code (some .boolean) pc ls st H Q
abbrev y13 : MethodName := ⟨"RetimingEngine", "applyLags", "()V"⟩
abbrev kb13 : ByteArray := prog_1_method_28_code
def M13 (pc : Nat) (ls : List Slot) (st : List Value) (H : AHeap) (Q : Option Value → AHeap → Prop) : Prop := W tables_1 dn 0 y13 prog_1_method_28_code none pc ls st H Q
abbrev y14 : MethodName := ⟨"RetimingEngine", "retimedRegs", "(I)I"⟩
abbrev kb14 : ByteArray := prog_1_method_12_code
def M14 (pc : Nat) (ls : List Slot) (st : List Value) (H : AHeap) (Q : Option Value → AHeap → Prop) : Prop := W tables_1 dn 0 y14 prog_1_method_12_code (some .int) pc ls st H Q
abbrev y15 : MethodName := ⟨"RetimingEngine", "lag", "(I)I"⟩
abbrev kb15 : ByteArray := prog_1_method_11_code
def M15 (pc : Nat) (ls : List Slot) (st : List Value) (H : AHeap) (Q : Option Value → AHeap → Prop) : Prop := W tables_1 dn 0 y15 prog_1_method_11_code (some .int) pc ls st H Q
abbrev y16 : MethodName := ⟨"RetimingEngine", "minPeriod", "()I"⟩
abbrev kb16 : ByteArray := prog_1_method_7_code
def M16 (pc : Nat) (ls : List Slot) (st : List Value) (H : AHeap) (Q : Option Value → AHeap → Prop) : Prop := W tables_1 dn 0 y16 prog_1_method_7_code (some .int) pc ls st H Q
abbrev y17 : MethodName := ⟨"RetimingEngine", "xOf", "(II)I"⟩
abbrev kb17 : ByteArray := prog_1_method_19_code
def M17 (pc : Nat) (ls : List Slot) (st : List Value) (H : AHeap) (Q : Option Value → AHeap → Prop) : Prop := W tables_1 dn 0 y17 prog_1_method_19_code (some .int) pc ls st H Q
abbrev y18 : MethodName := ⟨"RetimingEngineL2", "law", "(III)Z"⟩
abbrev kb18 : ByteArray := code
def M18 (pc : Nat) (ls : List Slot) (st : List Value) (H : AHeap) (Q : Option Value → AHeap → Prop) : Prop := W tables_1 dn 0 y18 code (some .boolean) pc ls st H Q
theorem dn_0 : dnOf dn y0 = some (1, 12) := by decide +kernel
theorem rc_0 : rCode tables_1 y0 = some (prog_1_method_1_code, 1, none) := rCode_of (i := 5) rfl (by decide +kernel)
theorem dn_1 : dnOf dn y1 = some (0, 0) := by decide +kernel
theorem rc_1 : rCode tables_1 y1 = some (prog_1_method_2_code, 4, some .int) := rCode_of (i := 61) rfl (by decide +kernel)
theorem dn_2 : dnOf dn y2 = some (0, 0) := by decide +kernel
theorem rc_2 : rCode tables_1 y2 = some (prog_1_method_3_code, 4, some .int) := rCode_of (i := 66) rfl (by decide +kernel)
theorem dn_3 : dnOf dn y3 = some (0, 0) := by decide +kernel
theorem rc_3 : rCode tables_1 y3 = some (prog_1_method_5_code, 1, some .int) := rCode_of (i := 71) rfl (by decide +kernel)
theorem dn_4 : dnOf dn y4 = some (3, 49) := by decide +kernel
theorem rc_4 : rCode tables_1 y4 = some (prog_1_method_4_code, 1, some .int) := rCode_of (i := 76) rfl (by decide +kernel)
theorem dn_5 : dnOf dn y5 = some (1, 14) := by decide +kernel
theorem rc_5 : rCode tables_1 y5 = some (prog_1_method_20_code, 7, some .boolean) := rCode_of (i := 80) rfl (by decide +kernel)
theorem dn_6 : dnOf dn y6 = some (1, 14) := by decide +kernel
theorem rc_6 : rCode tables_1 y6 = some (prog_1_method_21_code, 8, some .int) := rCode_of (i := 84) rfl (by decide +kernel)
theorem dn_7 : dnOf dn y7 = some (2, 32) := by decide +kernel
theorem rc_7 : rCode tables_1 y7 = some (prog_1_method_23_code, 3, none) := rCode_of (i := 90) rfl (by decide +kernel)
theorem dn_8 : dnOf dn y8 = some (1, 15) := by decide +kernel
theorem rc_8 : rCode tables_1 y8 = some (prog_1_method_24_code, 6, none) := rCode_of (i := 94) rfl (by decide +kernel)
theorem dn_9 : dnOf dn y9 = some (0, 0) := by decide +kernel
theorem rc_9 : rCode tables_1 y9 = some (prog_1_method_22_code, 4, none) := rCode_of (i := 98) rfl (by decide +kernel)
theorem dn_10 : dnOf dn y10 = some (2, 32) := by decide +kernel
theorem rc_10 : rCode tables_1 y10 = some (prog_1_method_25_code, 5, some .int) := rCode_of (i := 102) rfl (by decide +kernel)
theorem dn_11 : dnOf dn y11 = some (1, 18) := by decide +kernel
theorem rc_11 : rCode tables_1 y11 = some (prog_1_method_26_code, 3, some .boolean) := rCode_of (i := 106) rfl (by decide +kernel)
theorem dn_12 : dnOf dn y12 = some (0, 0) := by decide +kernel
theorem rc_12 : rCode tables_1 y12 = some (prog_1_method_27_code, 7, some .boolean) := rCode_of (i := 110) rfl (by decide +kernel)
theorem dn_13 : dnOf dn y13 = some (0, 0) := by decide +kernel
theorem rc_13 : rCode tables_1 y13 = some (prog_1_method_28_code, 2, none) := rCode_of (i := 116) rfl (by decide +kernel)
theorem dn_14 : dnOf dn y14 = some (0, 0) := by decide +kernel
theorem rc_14 : rCode tables_1 y14 = some (prog_1_method_12_code, 2, some .int) := rCode_of (i := 123) rfl (by decide +kernel)
theorem dn_15 : dnOf dn y15 = some (0, 0) := by decide +kernel
theorem rc_15 : rCode tables_1 y15 = some (prog_1_method_11_code, 2, some .int) := rCode_of (i := 128) rfl (by decide +kernel)
theorem dn_16 : dnOf dn y16 = some (0, 0) := by decide +kernel
theorem rc_16 : rCode tables_1 y16 = some (prog_1_method_7_code, 1, some .int) := rCode_of (i := 133) rfl (by decide +kernel)
theorem dn_17 : dnOf dn y17 = some (0, 0) := by decide +kernel
theorem rc_17 : rCode tables_1 y17 = some (prog_1_method_19_code, 3, some .int) := rCode_of (i := 137) rfl (by decide +kernel)
theorem dn_18 : dnOf dn y18 = some (4, 61) := by decide +kernel
theorem gf_7 : gfR tables_1 "RetimingEngine" 7 = some ("RetimingEngine", 0) := by decide +kernel
theorem gf_13 : gfR tables_1 "RetimingEngine" 13 = some ("RetimingEngine", 1) := by decide +kernel
theorem gf_16 : gfR tables_1 "RetimingEngine" 16 = some ("RetimingEngine", 2) := by decide +kernel
theorem gf_19 : gfR tables_1 "RetimingEngine" 19 = some ("RetimingEngine", 3) := by decide +kernel
theorem gf_22 : gfR tables_1 "RetimingEngine" 22 = some ("RetimingEngine", 4) := by decide +kernel
theorem gf_25 : gfR tables_1 "RetimingEngine" 25 = some ("RetimingEngine", 5) := by decide +kernel
theorem gf_28 : gfR tables_1 "RetimingEngine" 28 = some ("RetimingEngine", 6) := by decide +kernel
theorem gf_31 : gfR tables_1 "RetimingEngine" 31 = some ("RetimingEngine", 7) := by decide +kernel
theorem gf_34 : gfR tables_1 "RetimingEngine" 34 = some ("RetimingEngine", 8) := by decide +kernel
theorem gf_37 : gfR tables_1 "RetimingEngine" 37 = some ("RetimingEngine", 9) := by decide +kernel
theorem gf_40 : gfR tables_1 "RetimingEngine" 40 = some ("RetimingEngine", 10) := by decide +kernel
theorem gf_43 : gfR tables_1 "RetimingEngine" 43 = some ("RetimingEngine", 11) := by decide +kernel
theorem gf_47 : gfR tables_1 "RetimingEngine" 47 = some ("RetimingEngine", 12) := by decide +kernel
theorem gf_50 : gfR tables_1 "RetimingEngine" 50 = some ("RetimingEngine", 13) := by decide +kernel
theorem gf_53 : gfR tables_1 "RetimingEngine" 53 = some ("RetimingEngine", 14) := by decide +kernel
theorem gf_56 : gfR tables_1 "RetimingEngine" 56 = some ("RetimingEngine", 15) := by decide +kernel
theorem gf_59 : gfR tables_1 "RetimingEngine" 59 = some ("RetimingEngine", 16) := by decide +kernel
theorem gf_62 : gfR tables_1 "RetimingEngine" 62 = some ("RetimingEngine", 17) := by decide +kernel
theorem gf_65 : gfR tables_1 "RetimingEngine" 65 = some ("RetimingEngine", 18) := by decide +kernel
theorem gf_69 : gfR tables_1 "RetimingEngine" 69 = some ("RetimingEngine", 19) := by decide +kernel
theorem gf_72 : gfR tables_1 "RetimingEngine" 72 = some ("RetimingEngine", 20) := by decide +kernel
theorem gf_75 : gfR tables_1 "RetimingEngine" 75 = some ("RetimingEngine", 21) := by decide +kernel
theorem gf_78 : gfR tables_1 "RetimingEngine" 78 = some ("RetimingEngine", 22) := by decide +kernel
theorem gf_82 : gfR tables_1 "RetimingEngine" 82 = some ("RetimingEngine", 24) := by decide +kernel
theorem gf_93 : gfR tables_1 "RetimingEngine" 93 = some ("RetimingEngine", 23) := by decide +kernel
theorem gf_109 : gfR tables_1 "RetimingEngine" 109 = some ("RetimingEngine", 25) := by decide +kernel
section Rules
variable {b r q : Nat} {pre : AHeap} {s : Nat → Int32} {A : Nat → List Int32} {post : AHeap} {ls : List Slot} {st : List Value} {H R : AHeap} {Q : Option Value → AHeap → Prop} {x y v z j : Int32} {J1 J2 : Int64} {sc : List Int32} {l0 l1 l2 l3 l4 l5 l6 l7 l8 l9 l10 l11 l12 l13 l14 l15 l16 l17 : Slot}
theorem m0_0 : M0 0 [.val (.ref r)] st H Q = M0 1 [.val (.ref r)] (.ref r :: st) H Q := w_x (show decode kb0 0 = .ok (.aload_n 0, 1) from by decide +kernel) rfl
theorem m0_1 : M0 1 ls [.ref r] H Q = M0 4 ls [] H Q := w_obj (show decode kb0 1 = .ok (.invokespecial 1, 3) from by decide +kernel) (sl := 0) (by decide +kernel) (by decide)
theorem m0_4 : M0 4 [.val (.ref r)] st H Q = M0 5 [.val (.ref r)] (.ref r :: st) H Q := w_x (show decode kb0 4 = .ok (.aload_n 0, 1) from by decide +kernel) rfl
theorem m0_5 : M0 5 ls st H Q = M0 7 ls (.int 32 :: st) H Q := w_con (show decode kb0 5 = .ok (.bipush 32, 2) from by decide +kernel) rfl (by decide)
theorem m0_12 : M0 12 [.val (.ref r)] st H Q = M0 13 [.val (.ref r)] (.ref r :: st) H Q := w_x (show decode kb0 12 = .ok (.aload_n 0, 1) from by decide +kernel) rfl
theorem m0_13 : M0 13 ls st H Q = M0 15 ls (.int 32 :: st) H Q := w_con (show decode kb0 13 = .ok (.bipush 32, 2) from by decide +kernel) rfl (by decide)
theorem m0_20 : M0 20 [.val (.ref r)] st H Q = M0 21 [.val (.ref r)] (.ref r :: st) H Q := w_x (show decode kb0 20 = .ok (.aload_n 0, 1) from by decide +kernel) rfl
theorem m0_21 : M0 21 ls st H Q = M0 23 ls (.int 32 :: st) H Q := w_con (show decode kb0 21 = .ok (.bipush 32, 2) from by decide +kernel) rfl (by decide)
theorem m0_28 : M0 28 [.val (.ref r)] st H Q = M0 29 [.val (.ref r)] (.ref r :: st) H Q := w_x (show decode kb0 28 = .ok (.aload_n 0, 1) from by decide +kernel) rfl
theorem m0_29 : M0 29 ls st H Q = M0 31 ls (.int 64 :: st) H Q := w_con (show decode kb0 29 = .ok (.bipush 64, 2) from by decide +kernel) rfl (by decide)
theorem m0_36 : M0 36 [.val (.ref r)] st H Q = M0 37 [.val (.ref r)] (.ref r :: st) H Q := w_x (show decode kb0 36 = .ok (.aload_n 0, 1) from by decide +kernel) rfl
theorem m0_37 : M0 37 ls st H Q = M0 39 ls (.int 64 :: st) H Q := w_con (show decode kb0 37 = .ok (.bipush 64, 2) from by decide +kernel) rfl (by decide)
theorem m0_44 : M0 44 [.val (.ref r)] st H Q = M0 45 [.val (.ref r)] (.ref r :: st) H Q := w_x (show decode kb0 44 = .ok (.aload_n 0, 1) from by decide +kernel) rfl
theorem m0_45 : M0 45 ls st H Q = M0 47 ls (.int 64 :: st) H Q := w_con (show decode kb0 45 = .ok (.bipush 64, 2) from by decide +kernel) rfl (by decide)
theorem m0_52 : M0 52 [.val (.ref r)] st H Q = M0 53 [.val (.ref r)] (.ref r :: st) H Q := w_x (show decode kb0 52 = .ok (.aload_n 0, 1) from by decide +kernel) rfl
theorem m0_53 : M0 53 ls st H Q = M0 55 ls (.int 64 :: st) H Q := w_con (show decode kb0 53 = .ok (.bipush 64, 2) from by decide +kernel) rfl (by decide)
theorem m0_60 : M0 60 [.val (.ref r)] st H Q = M0 61 [.val (.ref r)] (.ref r :: st) H Q := w_x (show decode kb0 60 = .ok (.aload_n 0, 1) from by decide +kernel) rfl
theorem m0_61 : M0 61 ls st H Q = M0 63 ls (.int 32 :: st) H Q := w_con (show decode kb0 61 = .ok (.bipush 32, 2) from by decide +kernel) rfl (by decide)
theorem m0_68 : M0 68 [.val (.ref r)] st H Q = M0 69 [.val (.ref r)] (.ref r :: st) H Q := w_x (show decode kb0 68 = .ok (.aload_n 0, 1) from by decide +kernel) rfl
theorem m0_69 : M0 69 ls st H Q = M0 71 ls (.int 64 :: st) H Q := w_con (show decode kb0 69 = .ok (.bipush 64, 2) from by decide +kernel) rfl (by decide)
theorem m0_76 : M0 76 [.val (.ref r)] st H Q = M0 77 [.val (.ref r)] (.ref r :: st) H Q := w_x (show decode kb0 76 = .ok (.aload_n 0, 1) from by decide +kernel) rfl
theorem m0_77 : M0 77 ls st H Q = M0 80 ls (.int 1024 :: st) H Q := w_con (show decode kb0 77 = .ok (.sipush 1024, 3) from by decide +kernel) rfl (by decide)
theorem m0_85 : M0 85 [.val (.ref r)] st H Q = M0 86 [.val (.ref r)] (.ref r :: st) H Q := w_x (show decode kb0 85 = .ok (.aload_n 0, 1) from by decide +kernel) rfl
theorem m0_86 : M0 86 ls st H Q = M0 89 ls (.int 1024 :: st) H Q := w_con (show decode kb0 86 = .ok (.sipush 1024, 3) from by decide +kernel) rfl (by decide)
theorem m0_94 : M0 94 [.val (.ref r)] st H Q = M0 95 [.val (.ref r)] (.ref r :: st) H Q := w_x (show decode kb0 94 = .ok (.aload_n 0, 1) from by decide +kernel) rfl
theorem m0_95 : M0 95 ls st H Q = M0 98 ls (.int 1024 :: st) H Q := w_con (show decode kb0 95 = .ok (.sipush 1024, 3) from by decide +kernel) rfl (by decide)
theorem m0_103 : M0 103 [.val (.ref r)] st H Q = M0 104 [.val (.ref r)] (.ref r :: st) H Q := w_x (show decode kb0 103 = .ok (.aload_n 0, 1) from by decide +kernel) rfl
theorem m0_104 : M0 104 ls st H Q = M0 106 ls (.int 32 :: st) H Q := w_con (show decode kb0 104 = .ok (.bipush 32, 2) from by decide +kernel) rfl (by decide)
theorem m0_111 : M0 111 [.val (.ref r)] st H Q = M0 112 [.val (.ref r)] (.ref r :: st) H Q := w_x (show decode kb0 111 = .ok (.aload_n 0, 1) from by decide +kernel) rfl
theorem m0_112 : M0 112 ls st H Q = M0 114 ls (.int 32 :: st) H Q := w_con (show decode kb0 112 = .ok (.bipush 32, 2) from by decide +kernel) rfl (by decide)
theorem m0_119 : M0 119 [.val (.ref r)] st H Q = M0 120 [.val (.ref r)] (.ref r :: st) H Q := w_x (show decode kb0 119 = .ok (.aload_n 0, 1) from by decide +kernel) rfl
theorem m0_120 : M0 120 ls st H Q = M0 122 ls (.int 32 :: st) H Q := w_con (show decode kb0 120 = .ok (.bipush 32, 2) from by decide +kernel) rfl (by decide)
theorem m0_127 : M0 127 [.val (.ref r)] st H Q = M0 128 [.val (.ref r)] (.ref r :: st) H Q := w_x (show decode kb0 127 = .ok (.aload_n 0, 1) from by decide +kernel) rfl
theorem m0_128 : M0 128 ls st H Q = M0 130 ls (.int 32 :: st) H Q := w_con (show decode kb0 128 = .ok (.bipush 32, 2) from by decide +kernel) rfl (by decide)
theorem m0_135 : M0 135 [.val (.ref r)] st H Q = M0 136 [.val (.ref r)] (.ref r :: st) H Q := w_x (show decode kb0 135 = .ok (.aload_n 0, 1) from by decide +kernel) rfl
theorem m0_136 : M0 136 ls st H Q = M0 138 ls (.int 32 :: st) H Q := w_con (show decode kb0 136 = .ok (.bipush 32, 2) from by decide +kernel) rfl (by decide)
theorem m0_143 : M0 143 [.val (.ref r)] st H Q = M0 144 [.val (.ref r)] (.ref r :: st) H Q := w_x (show decode kb0 143 = .ok (.aload_n 0, 1) from by decide +kernel) rfl
theorem m0_144 : M0 144 ls st H Q = M0 147 ls (.int 1024 :: st) H Q := w_con (show decode kb0 144 = .ok (.sipush 1024, 3) from by decide +kernel) rfl (by decide)
theorem m0_152 : M0 152 [.val (.ref r)] st H Q = M0 153 [.val (.ref r)] (.ref r :: st) H Q := w_x (show decode kb0 152 = .ok (.aload_n 0, 1) from by decide +kernel) rfl
theorem m0_153 : M0 153 ls st H Q = M0 154 ls (.int 0 :: st) H Q := w_con (show decode kb0 153 = .ok (.iconst 0, 1) from by decide +kernel) rfl (by decide)
theorem pf0_65 : pfR tables_1 y0.cls y0.name 65 = some ("RetimingEngine", 18, .int) := by decide +kernel
theorem m0_154 : M0 154 ls (.int v :: .ref b :: st) (put b pre s A post) Q = M0 157 ls st (put b pre (ou s 0 v) A post) Q := w_put (show decode kb0 154 = .ok (.putfield 65, 3) from by decide +kernel) pf0_65 put_o (Nat.zero_le _) (by show 18 < 26; omega) rfl put_s0
theorem m0_157 : M0 157 [.val (.ref r)] st H Q = M0 158 [.val (.ref r)] (.ref r :: st) H Q := w_x (show decode kb0 157 = .ok (.aload_n 0, 1) from by decide +kernel) rfl
theorem m0_158 : M0 158 ls st H Q = M0 159 ls (.int 0 :: st) H Q := w_con (show decode kb0 158 = .ok (.iconst 0, 1) from by decide +kernel) rfl (by decide)
theorem pf0_69 : pfR tables_1 y0.cls y0.name 69 = some ("RetimingEngine", 19, .int) := by decide +kernel
theorem m0_159 : M0 159 ls (.int v :: .ref b :: st) (put b pre s A post) Q = M0 162 ls st (put b pre (ou s 1 v) A post) Q := w_put (show decode kb0 159 = .ok (.putfield 69, 3) from by decide +kernel) pf0_69 put_o (Nat.zero_le _) (by show 19 < 26; omega) rfl put_s1
theorem m0_162 : M0 162 [.val (.ref r)] st H Q = M0 163 [.val (.ref r)] (.ref r :: st) H Q := w_x (show decode kb0 162 = .ok (.aload_n 0, 1) from by decide +kernel) rfl
theorem m0_163 : M0 163 ls st H Q = M0 164 ls (.int 0 :: st) H Q := w_con (show decode kb0 163 = .ok (.iconst 0, 1) from by decide +kernel) rfl (by decide)
theorem pf0_72 : pfR tables_1 y0.cls y0.name 72 = some ("RetimingEngine", 20, .int) := by decide +kernel
theorem m0_164 : M0 164 ls (.int v :: .ref b :: st) (put b pre s A post) Q = M0 167 ls st (put b pre (ou s 2 v) A post) Q := w_put (show decode kb0 164 = .ok (.putfield 72, 3) from by decide +kernel) pf0_72 put_o (Nat.zero_le _) (by show 20 < 26; omega) rfl put_s2
theorem m0_167 : M0 167 [.val (.ref r)] st H Q = M0 168 [.val (.ref r)] (.ref r :: st) H Q := w_x (show decode kb0 167 = .ok (.aload_n 0, 1) from by decide +kernel) rfl
theorem m0_168 : M0 168 ls st H Q = M0 169 ls (.int 0 :: st) H Q := w_con (show decode kb0 168 = .ok (.iconst 0, 1) from by decide +kernel) rfl (by decide)
theorem pf0_75 : pfR tables_1 y0.cls y0.name 75 = some ("RetimingEngine", 21, .int) := by decide +kernel
theorem m0_169 : M0 169 ls (.int v :: .ref b :: st) (put b pre s A post) Q = M0 172 ls st (put b pre (ou s 3 v) A post) Q := w_put (show decode kb0 169 = .ok (.putfield 75, 3) from by decide +kernel) pf0_75 put_o (Nat.zero_le _) (by show 21 < 26; omega) rfl put_s3
theorem m0_172 : M0 172 [.val (.ref r)] st H Q = M0 173 [.val (.ref r)] (.ref r :: st) H Q := w_x (show decode kb0 172 = .ok (.aload_n 0, 1) from by decide +kernel) rfl
theorem m0_173 : M0 173 ls st H Q = M0 174 ls (.int 0 :: st) H Q := w_con (show decode kb0 173 = .ok (.iconst 0, 1) from by decide +kernel) rfl (by decide)
theorem pf0_78 : pfR tables_1 y0.cls y0.name 78 = some ("RetimingEngine", 22, .boolean) := by decide +kernel
theorem m0_174 : M0 174 ls (.int v :: .ref b :: st) (put b pre s A post) Q = M0 177 ls st (put b pre (ou s 4 (nar .boolean v)) A post) Q := w_put (show decode kb0 174 = .ok (.putfield 78, 3) from by decide +kernel) pf0_78 put_o (Nat.zero_le _) (by show 22 < 26; omega) rfl put_s4
theorem m0_177 : M0 177 ls [] H Q = Q none H := w_vret (show decode kb0 177 = .ok (.return_, 1) from by decide +kernel) rfl
theorem m1_0 : M1 0 [l0, .val (.int v), l2, l3] st H Q = M1 1 [l0, .val (.int v), l2, l3] (.int v :: st) H Q := w_x (show decode kb1 0 = .ok (.iload_n 1, 1) from by decide +kernel) rfl
theorem m1_1 : M1 1 ls (.int x :: st) H Q = if x < 0 then M1 9 ls st H Q else M1 4 ls st H Q := w_if (show decode kb1 1 = .ok (.ifCond .lt 8, 3) from by decide +kernel) (z_lt x) rfl
theorem m1_4 : M1 4 [l0, .val (.int v), l2, l3] st H Q = M1 5 [l0, .val (.int v), l2, l3] (.int v :: st) H Q := w_x (show decode kb1 4 = .ok (.iload_n 1, 1) from by decide +kernel) rfl
theorem m1_5 : M1 5 ls st H Q = M1 6 ls (.int 3 :: st) H Q := w_con (show decode kb1 5 = .ok (.iconst 3, 1) from by decide +kernel) rfl (by decide)
theorem m1_6 : M1 6 ls (.int y :: .int x :: st) H Q = if y < x then M1 9 ls st H Q else M1 12 ls st H Q := w_icmpN (show decode kb1 6 = .ok (.if_icmp .le 6, 3) from by decide +kernel) (i_le x y) rfl
theorem m1_9 : M1 9 ls st H Q = M1 11 ls (.int (-2) :: st) H Q := w_con (show decode kb1 9 = .ok (.bipush (-2), 2) from by decide +kernel) rfl (by decide)
theorem m1_11 : M1 11 ls (.int z :: st) H Q = Q (some (.int z)) H := w_iret (show decode kb1 11 = .ok (.ireturn, 1) from by decide +kernel) rfl
theorem m1_12 : M1 12 [l0, l1, .val (.int v), l3] st H Q = M1 13 [l0, l1, .val (.int v), l3] (.int v :: st) H Q := w_x (show decode kb1 12 = .ok (.iload_n 2, 1) from by decide +kernel) rfl
theorem m1_13 : M1 13 ls (.int x :: st) H Q = if x < 0 then M1 22 ls st H Q else M1 16 ls st H Q := w_if (show decode kb1 13 = .ok (.ifCond .lt 9, 3) from by decide +kernel) (z_lt x) rfl
theorem m1_16 : M1 16 [l0, l1, .val (.int v), l3] st H Q = M1 17 [l0, l1, .val (.int v), l3] (.int v :: st) H Q := w_x (show decode kb1 16 = .ok (.iload_n 2, 1) from by decide +kernel) rfl
theorem m1_17 : M1 17 ls st H Q = M1 19 ls (.int 15 :: st) H Q := w_con (show decode kb1 17 = .ok (.bipush 15, 2) from by decide +kernel) rfl (by decide)
theorem m1_19 : M1 19 ls (.int y :: .int x :: st) H Q = if y < x then M1 22 ls st H Q else M1 25 ls st H Q := w_icmpN (show decode kb1 19 = .ok (.if_icmp .le 6, 3) from by decide +kernel) (i_le x y) rfl
theorem m1_22 : M1 22 ls st H Q = M1 24 ls (.int (-2) :: st) H Q := w_con (show decode kb1 22 = .ok (.bipush (-2), 2) from by decide +kernel) rfl (by decide)
theorem m1_24 : M1 24 ls (.int z :: st) H Q = Q (some (.int z)) H := w_iret (show decode kb1 24 = .ok (.ireturn, 1) from by decide +kernel) rfl
theorem m1_25 : M1 25 [.val (.ref r), l1, l2, l3] st H Q = M1 26 [.val (.ref r), l1, l2, l3] (.ref r :: st) H Q := w_x (show decode kb1 25 = .ok (.aload_n 0, 1) from by decide +kernel) rfl
theorem m1_26 : M1 26 ls (.ref b :: st) (put b pre s A post) Q = M1 29 ls (.int (s 0) :: st) (put b pre s A post) Q := w_get (show decode kb1 26 = .ok (.getfield 65, 3) from by decide +kernel) gf_65 put_o rfl
theorem m1_29 : M1 29 ls st H Q = M1 31 ls (.int 32 :: st) H Q := w_con (show decode kb1 29 = .ok (.bipush 32, 2) from by decide +kernel) rfl (by decide)
theorem m1_31 : M1 31 ls (.int y :: .int x :: st) H Q = if x < y then M1 37 ls st H Q else M1 34 ls st H Q := w_icmp (show decode kb1 31 = .ok (.if_icmp .lt 6, 3) from by decide +kernel) (i_lt x y) rfl
theorem m1_34 : M1 34 ls st H Q = M1 36 ls (.int (-3) :: st) H Q := w_con (show decode kb1 34 = .ok (.bipush (-3), 2) from by decide +kernel) rfl (by decide)
theorem m1_36 : M1 36 ls (.int z :: st) H Q = Q (some (.int z)) H := w_iret (show decode kb1 36 = .ok (.ireturn, 1) from by decide +kernel) rfl
theorem m1_37 : M1 37 [.val (.ref r), l1, l2, l3] st H Q = M1 38 [.val (.ref r), l1, l2, l3] (.ref r :: st) H Q := w_x (show decode kb1 37 = .ok (.aload_n 0, 1) from by decide +kernel) rfl
theorem m1_38 : M1 38 ls (.ref b :: st) (put b pre s A post) Q = M1 41 ls (.ref (b + 1) :: st) (put b pre s A post) Q := w_get (show decode kb1 38 = .ok (.getfield 7, 3) from by decide +kernel) gf_7 put_o rfl
theorem m1_41 : M1 41 [.val (.ref r), l1, l2, l3] st H Q = M1 42 [.val (.ref r), l1, l2, l3] (.ref r :: st) H Q := w_x (show decode kb1 41 = .ok (.aload_n 0, 1) from by decide +kernel) rfl
theorem m1_42 : M1 42 ls (.ref b :: st) (put b pre s A post) Q = M1 45 ls (.int (s 0) :: st) (put b pre s A post) Q := w_get (show decode kb1 42 = .ok (.getfield 65, 3) from by decide +kernel) gf_65 put_o rfl
theorem m1_45 : M1 45 [l0, .val (.int v), l2, l3] st H Q = M1 46 [l0, .val (.int v), l2, l3] (.int v :: st) H Q := w_x (show decode kb1 45 = .ok (.iload_n 1, 1) from by decide +kernel) rfl
theorem m1_46  : M1 46 ls (.int v :: .int j :: .ref (b + 1) :: st) (put b pre s A post) Q = (inB j (A 0) ∧ M1 47 ls st (put b pre s (ou A 0 (setA (A 0) j v)) post) Q) := w_ist (show decode kb1 46 = .ok (.iastore, 1) from by decide +kernel) rfl put_a0 (Nat.zero_le _) rfl put_w0
theorem m1_47 : M1 47 [.val (.ref r), l1, l2, l3] st H Q = M1 48 [.val (.ref r), l1, l2, l3] (.ref r :: st) H Q := w_x (show decode kb1 47 = .ok (.aload_n 0, 1) from by decide +kernel) rfl
theorem m1_48 : M1 48 ls (.ref b :: st) (put b pre s A post) Q = M1 51 ls (.ref (b + 2) :: st) (put b pre s A post) Q := w_get (show decode kb1 48 = .ok (.getfield 13, 3) from by decide +kernel) gf_13 put_o rfl
theorem m1_51 : M1 51 [.val (.ref r), l1, l2, l3] st H Q = M1 52 [.val (.ref r), l1, l2, l3] (.ref r :: st) H Q := w_x (show decode kb1 51 = .ok (.aload_n 0, 1) from by decide +kernel) rfl
theorem m1_52 : M1 52 ls (.ref b :: st) (put b pre s A post) Q = M1 55 ls (.int (s 0) :: st) (put b pre s A post) Q := w_get (show decode kb1 52 = .ok (.getfield 65, 3) from by decide +kernel) gf_65 put_o rfl
theorem m1_55 : M1 55 [l0, l1, .val (.int v), l3] st H Q = M1 56 [l0, l1, .val (.int v), l3] (.int v :: st) H Q := w_x (show decode kb1 55 = .ok (.iload_n 2, 1) from by decide +kernel) rfl
theorem m1_56  : M1 56 ls (.int v :: .int j :: .ref (b + 2) :: st) (put b pre s A post) Q = (inB j (A 1) ∧ M1 57 ls st (put b pre s (ou A 1 (setA (A 1) j v)) post) Q) := w_ist (show decode kb1 56 = .ok (.iastore, 1) from by decide +kernel) rfl put_a1 (Nat.zero_le _) rfl put_w1
theorem m1_57 : M1 57 [.val (.ref r), l1, l2, l3] st H Q = M1 58 [.val (.ref r), l1, l2, l3] (.ref r :: st) H Q := w_x (show decode kb1 57 = .ok (.aload_n 0, 1) from by decide +kernel) rfl
theorem m1_58 : M1 58 ls (.ref b :: st) (put b pre s A post) Q = M1 61 ls (.ref (b + 3) :: st) (put b pre s A post) Q := w_get (show decode kb1 58 = .ok (.getfield 16, 3) from by decide +kernel) gf_16 put_o rfl
theorem m1_61 : M1 61 [.val (.ref r), l1, l2, l3] st H Q = M1 62 [.val (.ref r), l1, l2, l3] (.ref r :: st) H Q := w_x (show decode kb1 61 = .ok (.aload_n 0, 1) from by decide +kernel) rfl
theorem m1_62 : M1 62 ls (.ref b :: st) (put b pre s A post) Q = M1 65 ls (.int (s 0) :: st) (put b pre s A post) Q := w_get (show decode kb1 62 = .ok (.getfield 65, 3) from by decide +kernel) gf_65 put_o rfl
theorem m1_65 : M1 65 [l0, l1, l2, .val (.int v)] st H Q = M1 66 [l0, l1, l2, .val (.int v)] (.int v :: st) H Q := w_x (show decode kb1 65 = .ok (.iload_n 3, 1) from by decide +kernel) rfl
theorem m1_66  : M1 66 ls (.int v :: .int j :: .ref (b + 3) :: st) (put b pre s A post) Q = (inB j (A 2) ∧ M1 67 ls st (put b pre s (ou A 2 (setA (A 2) j v)) post) Q) := w_ist (show decode kb1 66 = .ok (.iastore, 1) from by decide +kernel) rfl put_a2 (Nat.zero_le _) rfl put_w2
theorem m1_67 : M1 67 [.val (.ref r), l1, l2, l3] st H Q = M1 68 [.val (.ref r), l1, l2, l3] (.ref r :: st) H Q := w_x (show decode kb1 67 = .ok (.aload_n 0, 1) from by decide +kernel) rfl
theorem m1_68 : M1 68 ls ((.ref r) :: st) H Q = M1 69 ls ((.ref r) :: (.ref r) :: st) H Q := w_x (show decode kb1 68 = .ok (.dup, 1) from by decide +kernel) rfl
theorem m1_69 : M1 69 ls (.ref b :: st) (put b pre s A post) Q = M1 72 ls (.int (s 0) :: st) (put b pre s A post) Q := w_get (show decode kb1 69 = .ok (.getfield 65, 3) from by decide +kernel) gf_65 put_o rfl
theorem m1_72 : M1 72 ls st H Q = M1 73 ls (.int 1 :: st) H Q := w_con (show decode kb1 72 = .ok (.iconst 1, 1) from by decide +kernel) rfl (by decide)
theorem m1_73 : M1 73 ls (.int y :: .int x :: st) H Q = M1 74 ls (.int (x + y) :: st) H Q := w_x (show decode kb1 73 = .ok (.iadd, 1) from by decide +kernel) rfl
theorem pf1_65 : pfR tables_1 y1.cls y1.name 65 = some ("RetimingEngine", 18, .int) := by decide +kernel
theorem m1_74 : M1 74 ls (.int v :: .ref b :: st) (put b pre s A post) Q = M1 77 ls st (put b pre (ou s 0 v) A post) Q := w_put (show decode kb1 74 = .ok (.putfield 65, 3) from by decide +kernel) pf1_65 put_o (Nat.zero_le _) (by show 18 < 26; omega) rfl put_s0
theorem m1_77 : M1 77 [.val (.ref r), l1, l2, l3] st H Q = M1 78 [.val (.ref r), l1, l2, l3] (.ref r :: st) H Q := w_x (show decode kb1 77 = .ok (.aload_n 0, 1) from by decide +kernel) rfl
theorem m1_78 : M1 78 ls st H Q = M1 79 ls (.int 0 :: st) H Q := w_con (show decode kb1 78 = .ok (.iconst 0, 1) from by decide +kernel) rfl (by decide)
theorem pf1_78 : pfR tables_1 y1.cls y1.name 78 = some ("RetimingEngine", 22, .boolean) := by decide +kernel
theorem m1_79 : M1 79 ls (.int v :: .ref b :: st) (put b pre s A post) Q = M1 82 ls st (put b pre (ou s 4 (nar .boolean v)) A post) Q := w_put (show decode kb1 79 = .ok (.putfield 78, 3) from by decide +kernel) pf1_78 put_o (Nat.zero_le _) (by show 22 < 26; omega) rfl put_s4
theorem m1_82 : M1 82 [.val (.ref r), l1, l2, l3] st H Q = M1 83 [.val (.ref r), l1, l2, l3] (.ref r :: st) H Q := w_x (show decode kb1 82 = .ok (.aload_n 0, 1) from by decide +kernel) rfl
theorem m1_83 : M1 83 ls st H Q = M1 84 ls (.int 0 :: st) H Q := w_con (show decode kb1 83 = .ok (.iconst 0, 1) from by decide +kernel) rfl (by decide)
theorem pf1_75 : pfR tables_1 y1.cls y1.name 75 = some ("RetimingEngine", 21, .int) := by decide +kernel
theorem m1_84 : M1 84 ls (.int v :: .ref b :: st) (put b pre s A post) Q = M1 87 ls st (put b pre (ou s 3 v) A post) Q := w_put (show decode kb1 84 = .ok (.putfield 75, 3) from by decide +kernel) pf1_75 put_o (Nat.zero_le _) (by show 21 < 26; omega) rfl put_s3
theorem m1_87 : M1 87 [.val (.ref r), l1, l2, l3] st H Q = M1 88 [.val (.ref r), l1, l2, l3] (.ref r :: st) H Q := w_x (show decode kb1 87 = .ok (.aload_n 0, 1) from by decide +kernel) rfl
theorem m1_88 : M1 88 ls (.ref b :: st) (put b pre s A post) Q = M1 91 ls (.int (s 0) :: st) (put b pre s A post) Q := w_get (show decode kb1 88 = .ok (.getfield 65, 3) from by decide +kernel) gf_65 put_o rfl
theorem m1_91 : M1 91 ls st H Q = M1 92 ls (.int 1 :: st) H Q := w_con (show decode kb1 91 = .ok (.iconst 1, 1) from by decide +kernel) rfl (by decide)
theorem m1_92 : M1 92 ls (.int y :: .int x :: st) H Q = M1 93 ls (.int (x - y) :: st) H Q := w_x (show decode kb1 92 = .ok (.isub, 1) from by decide +kernel) rfl
theorem m1_93 : M1 93 ls (.int z :: st) H Q = Q (some (.int z)) H := w_iret (show decode kb1 93 = .ok (.ireturn, 1) from by decide +kernel) rfl
theorem m2_0 : M2 0 [l0, .val (.int v), l2, l3] st H Q = M2 1 [l0, .val (.int v), l2, l3] (.int v :: st) H Q := w_x (show decode kb2 0 = .ok (.iload_n 1, 1) from by decide +kernel) rfl
theorem m2_1 : M2 1 ls (.int x :: st) H Q = if x < 0 then M2 24 ls st H Q else M2 4 ls st H Q := w_if (show decode kb2 1 = .ok (.ifCond .lt 23, 3) from by decide +kernel) (z_lt x) rfl
theorem m2_4 : M2 4 [l0, .val (.int v), l2, l3] st H Q = M2 5 [l0, .val (.int v), l2, l3] (.int v :: st) H Q := w_x (show decode kb2 4 = .ok (.iload_n 1, 1) from by decide +kernel) rfl
theorem m2_5 : M2 5 [.val (.ref r), l1, l2, l3] st H Q = M2 6 [.val (.ref r), l1, l2, l3] (.ref r :: st) H Q := w_x (show decode kb2 5 = .ok (.aload_n 0, 1) from by decide +kernel) rfl
theorem m2_6 : M2 6 ls (.ref b :: st) (put b pre s A post) Q = M2 9 ls (.int (s 0) :: st) (put b pre s A post) Q := w_get (show decode kb2 6 = .ok (.getfield 65, 3) from by decide +kernel) gf_65 put_o rfl
theorem m2_9 : M2 9 ls (.int y :: .int x :: st) H Q = if x < y then M2 12 ls st H Q else M2 24 ls st H Q := w_icmpN (show decode kb2 9 = .ok (.if_icmp .ge 15, 3) from by decide +kernel) (i_ge x y) rfl
theorem m2_12 : M2 12 [l0, l1, .val (.int v), l3] st H Q = M2 13 [l0, l1, .val (.int v), l3] (.int v :: st) H Q := w_x (show decode kb2 12 = .ok (.iload_n 2, 1) from by decide +kernel) rfl
theorem m2_13 : M2 13 ls (.int x :: st) H Q = if x < 0 then M2 24 ls st H Q else M2 16 ls st H Q := w_if (show decode kb2 13 = .ok (.ifCond .lt 11, 3) from by decide +kernel) (z_lt x) rfl
theorem m2_16 : M2 16 [l0, l1, .val (.int v), l3] st H Q = M2 17 [l0, l1, .val (.int v), l3] (.int v :: st) H Q := w_x (show decode kb2 16 = .ok (.iload_n 2, 1) from by decide +kernel) rfl
theorem m2_17 : M2 17 [.val (.ref r), l1, l2, l3] st H Q = M2 18 [.val (.ref r), l1, l2, l3] (.ref r :: st) H Q := w_x (show decode kb2 17 = .ok (.aload_n 0, 1) from by decide +kernel) rfl
theorem m2_18 : M2 18 ls (.ref b :: st) (put b pre s A post) Q = M2 21 ls (.int (s 0) :: st) (put b pre s A post) Q := w_get (show decode kb2 18 = .ok (.getfield 65, 3) from by decide +kernel) gf_65 put_o rfl
theorem m2_21 : M2 21 ls (.int y :: .int x :: st) H Q = if x < y then M2 27 ls st H Q else M2 24 ls st H Q := w_icmp (show decode kb2 21 = .ok (.if_icmp .lt 6, 3) from by decide +kernel) (i_lt x y) rfl
theorem m2_24 : M2 24 ls st H Q = M2 26 ls (.int (-2) :: st) H Q := w_con (show decode kb2 24 = .ok (.bipush (-2), 2) from by decide +kernel) rfl (by decide)
theorem m2_26 : M2 26 ls (.int z :: st) H Q = Q (some (.int z)) H := w_iret (show decode kb2 26 = .ok (.ireturn, 1) from by decide +kernel) rfl
theorem m2_27 : M2 27 [l0, l1, l2, .val (.int v)] st H Q = M2 28 [l0, l1, l2, .val (.int v)] (.int v :: st) H Q := w_x (show decode kb2 27 = .ok (.iload_n 3, 1) from by decide +kernel) rfl
theorem m2_28 : M2 28 ls (.int x :: st) H Q = if x < 0 then M2 37 ls st H Q else M2 31 ls st H Q := w_if (show decode kb2 28 = .ok (.ifCond .lt 9, 3) from by decide +kernel) (z_lt x) rfl
theorem m2_31 : M2 31 [l0, l1, l2, .val (.int v)] st H Q = M2 32 [l0, l1, l2, .val (.int v)] (.int v :: st) H Q := w_x (show decode kb2 31 = .ok (.iload_n 3, 1) from by decide +kernel) rfl
theorem m2_32 : M2 32 ls st H Q = M2 34 ls (.int 7 :: st) H Q := w_con (show decode kb2 32 = .ok (.bipush 7, 2) from by decide +kernel) rfl (by decide)
theorem m2_34 : M2 34 ls (.int y :: .int x :: st) H Q = if y < x then M2 37 ls st H Q else M2 40 ls st H Q := w_icmpN (show decode kb2 34 = .ok (.if_icmp .le 6, 3) from by decide +kernel) (i_le x y) rfl
theorem m2_37 : M2 37 ls st H Q = M2 39 ls (.int (-2) :: st) H Q := w_con (show decode kb2 37 = .ok (.bipush (-2), 2) from by decide +kernel) rfl (by decide)
theorem m2_39 : M2 39 ls (.int z :: st) H Q = Q (some (.int z)) H := w_iret (show decode kb2 39 = .ok (.ireturn, 1) from by decide +kernel) rfl
theorem m2_40 : M2 40 [.val (.ref r), l1, l2, l3] st H Q = M2 41 [.val (.ref r), l1, l2, l3] (.ref r :: st) H Q := w_x (show decode kb2 40 = .ok (.aload_n 0, 1) from by decide +kernel) rfl
theorem m2_41 : M2 41 ls (.ref b :: st) (put b pre s A post) Q = M2 44 ls (.int (s 1) :: st) (put b pre s A post) Q := w_get (show decode kb2 41 = .ok (.getfield 69, 3) from by decide +kernel) gf_69 put_o rfl
theorem m2_44 : M2 44 ls st H Q = M2 46 ls (.int 64 :: st) H Q := w_con (show decode kb2 44 = .ok (.bipush 64, 2) from by decide +kernel) rfl (by decide)
theorem m2_46 : M2 46 ls (.int y :: .int x :: st) H Q = if x < y then M2 52 ls st H Q else M2 49 ls st H Q := w_icmp (show decode kb2 46 = .ok (.if_icmp .lt 6, 3) from by decide +kernel) (i_lt x y) rfl
theorem m2_49 : M2 49 ls st H Q = M2 51 ls (.int (-3) :: st) H Q := w_con (show decode kb2 49 = .ok (.bipush (-3), 2) from by decide +kernel) rfl (by decide)
theorem m2_51 : M2 51 ls (.int z :: st) H Q = Q (some (.int z)) H := w_iret (show decode kb2 51 = .ok (.ireturn, 1) from by decide +kernel) rfl
theorem m2_52 : M2 52 [.val (.ref r), l1, l2, l3] st H Q = M2 53 [.val (.ref r), l1, l2, l3] (.ref r :: st) H Q := w_x (show decode kb2 52 = .ok (.aload_n 0, 1) from by decide +kernel) rfl
theorem m2_53 : M2 53 ls (.ref b :: st) (put b pre s A post) Q = M2 56 ls (.ref (b + 4) :: st) (put b pre s A post) Q := w_get (show decode kb2 53 = .ok (.getfield 19, 3) from by decide +kernel) gf_19 put_o rfl
theorem m2_56 : M2 56 [.val (.ref r), l1, l2, l3] st H Q = M2 57 [.val (.ref r), l1, l2, l3] (.ref r :: st) H Q := w_x (show decode kb2 56 = .ok (.aload_n 0, 1) from by decide +kernel) rfl
theorem m2_57 : M2 57 ls (.ref b :: st) (put b pre s A post) Q = M2 60 ls (.int (s 1) :: st) (put b pre s A post) Q := w_get (show decode kb2 57 = .ok (.getfield 69, 3) from by decide +kernel) gf_69 put_o rfl
theorem m2_60 : M2 60 [l0, .val (.int v), l2, l3] st H Q = M2 61 [l0, .val (.int v), l2, l3] (.int v :: st) H Q := w_x (show decode kb2 60 = .ok (.iload_n 1, 1) from by decide +kernel) rfl
theorem m2_61  : M2 61 ls (.int v :: .int j :: .ref (b + 4) :: st) (put b pre s A post) Q = (inB j (A 3) ∧ M2 62 ls st (put b pre s (ou A 3 (setA (A 3) j v)) post) Q) := w_ist (show decode kb2 61 = .ok (.iastore, 1) from by decide +kernel) rfl put_a3 (Nat.zero_le _) rfl put_w3
theorem m2_62 : M2 62 [.val (.ref r), l1, l2, l3] st H Q = M2 63 [.val (.ref r), l1, l2, l3] (.ref r :: st) H Q := w_x (show decode kb2 62 = .ok (.aload_n 0, 1) from by decide +kernel) rfl
theorem m2_63 : M2 63 ls (.ref b :: st) (put b pre s A post) Q = M2 66 ls (.ref (b + 5) :: st) (put b pre s A post) Q := w_get (show decode kb2 63 = .ok (.getfield 22, 3) from by decide +kernel) gf_22 put_o rfl
theorem m2_66 : M2 66 [.val (.ref r), l1, l2, l3] st H Q = M2 67 [.val (.ref r), l1, l2, l3] (.ref r :: st) H Q := w_x (show decode kb2 66 = .ok (.aload_n 0, 1) from by decide +kernel) rfl
theorem m2_67 : M2 67 ls (.ref b :: st) (put b pre s A post) Q = M2 70 ls (.int (s 1) :: st) (put b pre s A post) Q := w_get (show decode kb2 67 = .ok (.getfield 69, 3) from by decide +kernel) gf_69 put_o rfl
theorem m2_70 : M2 70 [l0, l1, .val (.int v), l3] st H Q = M2 71 [l0, l1, .val (.int v), l3] (.int v :: st) H Q := w_x (show decode kb2 70 = .ok (.iload_n 2, 1) from by decide +kernel) rfl
theorem m2_71  : M2 71 ls (.int v :: .int j :: .ref (b + 5) :: st) (put b pre s A post) Q = (inB j (A 4) ∧ M2 72 ls st (put b pre s (ou A 4 (setA (A 4) j v)) post) Q) := w_ist (show decode kb2 71 = .ok (.iastore, 1) from by decide +kernel) rfl put_a4 (Nat.zero_le _) rfl put_w4
theorem m2_72 : M2 72 [.val (.ref r), l1, l2, l3] st H Q = M2 73 [.val (.ref r), l1, l2, l3] (.ref r :: st) H Q := w_x (show decode kb2 72 = .ok (.aload_n 0, 1) from by decide +kernel) rfl
theorem m2_73 : M2 73 ls (.ref b :: st) (put b pre s A post) Q = M2 76 ls (.ref (b + 6) :: st) (put b pre s A post) Q := w_get (show decode kb2 73 = .ok (.getfield 25, 3) from by decide +kernel) gf_25 put_o rfl
theorem m2_76 : M2 76 [.val (.ref r), l1, l2, l3] st H Q = M2 77 [.val (.ref r), l1, l2, l3] (.ref r :: st) H Q := w_x (show decode kb2 76 = .ok (.aload_n 0, 1) from by decide +kernel) rfl
theorem m2_77 : M2 77 ls (.ref b :: st) (put b pre s A post) Q = M2 80 ls (.int (s 1) :: st) (put b pre s A post) Q := w_get (show decode kb2 77 = .ok (.getfield 69, 3) from by decide +kernel) gf_69 put_o rfl
theorem m2_80 : M2 80 [l0, l1, l2, .val (.int v)] st H Q = M2 81 [l0, l1, l2, .val (.int v)] (.int v :: st) H Q := w_x (show decode kb2 80 = .ok (.iload_n 3, 1) from by decide +kernel) rfl
theorem m2_81  : M2 81 ls (.int v :: .int j :: .ref (b + 6) :: st) (put b pre s A post) Q = (inB j (A 5) ∧ M2 82 ls st (put b pre s (ou A 5 (setA (A 5) j v)) post) Q) := w_ist (show decode kb2 81 = .ok (.iastore, 1) from by decide +kernel) rfl put_a5 (Nat.zero_le _) rfl put_w5
theorem m2_82 : M2 82 [.val (.ref r), l1, l2, l3] st H Q = M2 83 [.val (.ref r), l1, l2, l3] (.ref r :: st) H Q := w_x (show decode kb2 82 = .ok (.aload_n 0, 1) from by decide +kernel) rfl
theorem m2_83 : M2 83 ls ((.ref r) :: st) H Q = M2 84 ls ((.ref r) :: (.ref r) :: st) H Q := w_x (show decode kb2 83 = .ok (.dup, 1) from by decide +kernel) rfl
theorem m2_84 : M2 84 ls (.ref b :: st) (put b pre s A post) Q = M2 87 ls (.int (s 1) :: st) (put b pre s A post) Q := w_get (show decode kb2 84 = .ok (.getfield 69, 3) from by decide +kernel) gf_69 put_o rfl
theorem m2_87 : M2 87 ls st H Q = M2 88 ls (.int 1 :: st) H Q := w_con (show decode kb2 87 = .ok (.iconst 1, 1) from by decide +kernel) rfl (by decide)
theorem m2_88 : M2 88 ls (.int y :: .int x :: st) H Q = M2 89 ls (.int (x + y) :: st) H Q := w_x (show decode kb2 88 = .ok (.iadd, 1) from by decide +kernel) rfl
theorem pf2_69 : pfR tables_1 y2.cls y2.name 69 = some ("RetimingEngine", 19, .int) := by decide +kernel
theorem m2_89 : M2 89 ls (.int v :: .ref b :: st) (put b pre s A post) Q = M2 92 ls st (put b pre (ou s 1 v) A post) Q := w_put (show decode kb2 89 = .ok (.putfield 69, 3) from by decide +kernel) pf2_69 put_o (Nat.zero_le _) (by show 19 < 26; omega) rfl put_s1
theorem m2_92 : M2 92 [.val (.ref r), l1, l2, l3] st H Q = M2 93 [.val (.ref r), l1, l2, l3] (.ref r :: st) H Q := w_x (show decode kb2 92 = .ok (.aload_n 0, 1) from by decide +kernel) rfl
theorem m2_93 : M2 93 ls st H Q = M2 94 ls (.int 0 :: st) H Q := w_con (show decode kb2 93 = .ok (.iconst 0, 1) from by decide +kernel) rfl (by decide)
theorem pf2_78 : pfR tables_1 y2.cls y2.name 78 = some ("RetimingEngine", 22, .boolean) := by decide +kernel
theorem m2_94 : M2 94 ls (.int v :: .ref b :: st) (put b pre s A post) Q = M2 97 ls st (put b pre (ou s 4 (nar .boolean v)) A post) Q := w_put (show decode kb2 94 = .ok (.putfield 78, 3) from by decide +kernel) pf2_78 put_o (Nat.zero_le _) (by show 22 < 26; omega) rfl put_s4
theorem m2_97 : M2 97 [.val (.ref r), l1, l2, l3] st H Q = M2 98 [.val (.ref r), l1, l2, l3] (.ref r :: st) H Q := w_x (show decode kb2 97 = .ok (.aload_n 0, 1) from by decide +kernel) rfl
theorem m2_98 : M2 98 ls st H Q = M2 99 ls (.int 0 :: st) H Q := w_con (show decode kb2 98 = .ok (.iconst 0, 1) from by decide +kernel) rfl (by decide)
theorem pf2_75 : pfR tables_1 y2.cls y2.name 75 = some ("RetimingEngine", 21, .int) := by decide +kernel
theorem m2_99 : M2 99 ls (.int v :: .ref b :: st) (put b pre s A post) Q = M2 102 ls st (put b pre (ou s 3 v) A post) Q := w_put (show decode kb2 99 = .ok (.putfield 75, 3) from by decide +kernel) pf2_75 put_o (Nat.zero_le _) (by show 21 < 26; omega) rfl put_s3
theorem m2_102 : M2 102 [.val (.ref r), l1, l2, l3] st H Q = M2 103 [.val (.ref r), l1, l2, l3] (.ref r :: st) H Q := w_x (show decode kb2 102 = .ok (.aload_n 0, 1) from by decide +kernel) rfl
theorem m2_103 : M2 103 ls (.ref b :: st) (put b pre s A post) Q = M2 106 ls (.int (s 1) :: st) (put b pre s A post) Q := w_get (show decode kb2 103 = .ok (.getfield 69, 3) from by decide +kernel) gf_69 put_o rfl
theorem m2_106 : M2 106 ls st H Q = M2 107 ls (.int 1 :: st) H Q := w_con (show decode kb2 106 = .ok (.iconst 1, 1) from by decide +kernel) rfl (by decide)
theorem m2_107 : M2 107 ls (.int y :: .int x :: st) H Q = M2 108 ls (.int (x - y) :: st) H Q := w_x (show decode kb2 107 = .ok (.isub, 1) from by decide +kernel) rfl
theorem m2_108 : M2 108 ls (.int z :: st) H Q = Q (some (.int z)) H := w_iret (show decode kb2 108 = .ok (.ireturn, 1) from by decide +kernel) rfl
theorem m3_0 : M3 0 [.val (.ref r)] st H Q = M3 1 [.val (.ref r)] (.ref r :: st) H Q := w_x (show decode kb3 0 = .ok (.aload_n 0, 1) from by decide +kernel) rfl
theorem m3_1 : M3 1 ls (.ref b :: st) (put b pre s A post) Q = M3 4 ls (.int (s 1) :: st) (put b pre s A post) Q := w_get (show decode kb3 1 = .ok (.getfield 69, 3) from by decide +kernel) gf_69 put_o rfl
theorem m3_4 : M3 4 ls (.int z :: st) H Q = Q (some (.int z)) H := w_iret (show decode kb3 4 = .ok (.ireturn, 1) from by decide +kernel) rfl
theorem m4_0 : M4 0 [.val (.ref r)] st H Q = M4 1 [.val (.ref r)] (.ref r :: st) H Q := w_x (show decode kb4 0 = .ok (.aload_n 0, 1) from by decide +kernel) rfl
theorem m4_1 : M4 1 ls (.ref b :: st) (put b pre s A post) Q = M4 4 ls (.int (s 4) :: st) (put b pre s A post) Q := w_get (show decode kb4 1 = .ok (.getfield 78, 3) from by decide +kernel) gf_78 put_o rfl
theorem m4_4 : M4 4 ls (.int x :: st) H Q = if x = 0 then M4 12 ls st H Q else M4 7 ls st H Q := w_if (show decode kb4 4 = .ok (.ifCond .eq 8, 3) from by decide +kernel) (z_eq x) rfl
theorem m4_7 : M4 7 [.val (.ref r)] st H Q = M4 8 [.val (.ref r)] (.ref r :: st) H Q := w_x (show decode kb4 7 = .ok (.aload_n 0, 1) from by decide +kernel) rfl
theorem m4_8 : M4 8 ls (.ref b :: st) (put b pre s A post) Q = M4 11 ls (.int (s 5) :: st) (put b pre s A post) Q := w_get (show decode kb4 8 = .ok (.getfield 82, 3) from by decide +kernel) gf_82 put_o rfl
theorem m4_11 : M4 11 ls (.int z :: st) H Q = Q (some (.int z)) H := w_iret (show decode kb4 11 = .ok (.ireturn, 1) from by decide +kernel) rfl
theorem m4_12 : M4 12 [.val (.ref r)] st H Q = M4 13 [.val (.ref r)] (.ref r :: st) H Q := w_x (show decode kb4 12 = .ok (.aload_n 0, 1) from by decide +kernel) rfl
theorem m4_13 : M4 13 ls (.ref b :: st) (put b pre s A post) Q = M4 16 ls (.int (s 0) :: st) (put b pre s A post) Q := w_get (show decode kb4 13 = .ok (.getfield 65, 3) from by decide +kernel) gf_65 put_o rfl
theorem m4_16 : M4 16 ls (.int x :: st) H Q = if x = 0 then M4 19 ls st H Q else M4 22 ls st H Q := w_ifN (show decode kb4 16 = .ok (.ifCond .ne 6, 3) from by decide +kernel) (z_ne x) rfl
theorem m4_19 : M4 19 ls st H Q = M4 21 ls (.int (-4) :: st) H Q := w_con (show decode kb4 19 = .ok (.bipush (-4), 2) from by decide +kernel) rfl (by decide)
theorem m4_21 : M4 21 ls (.int z :: st) H Q = Q (some (.int z)) H := w_iret (show decode kb4 21 = .ok (.ireturn, 1) from by decide +kernel) rfl
theorem m4_22 : M4 22 [.val (.ref r)] st H Q = M4 23 [.val (.ref r)] (.ref r :: st) H Q := w_x (show decode kb4 22 = .ok (.aload_n 0, 1) from by decide +kernel) rfl
theorem m4_23 : M4 23 ls st H Q = M4 24 ls (.int 0 :: st) H Q := w_con (show decode kb4 23 = .ok (.iconst 0, 1) from by decide +kernel) rfl (by decide)
theorem cr4_85 : vR tables_1 dn y4 85 = some (true, y5, prog_1_method_20_code, 7, (some .boolean), 1, 17) := pR_of (cR_of (by decide +kernel) rc_5 dn_5 dn_4 (sig := ⟨[.int], some .boolean⟩) (by decide +kernel) (by decide +kernel) rfl rfl) (by decide +kernel) (by decide +kernel)
theorem m4_24 (a0 : Int32) : M4 24 ls [.int a0, .ref b] (put b pre s A post) Q = M5 0 [.val (.ref b), .val (.int a0), .unset, .unset, .unset, .unset, .unset] [] (put b pre s A post) (fun v H1 => M4 27 ls (v.toList ++ []) H1 Q) := w_virt (as := [.int a0]) (rest := []) (a := b) (show decode kb4 24 = .ok (.invokevirtual 85, 3) from by decide +kernel) cr4_85 put_o rfl rfl (Nat.le_of_ble_eq_true rfl) (by show 2 ≤ 7; omega) rfl
theorem m4_27 : M4 27 ls (.int x :: st) H Q = if x = 0 then M4 30 ls st H Q else M4 33 ls st H Q := w_ifN (show decode kb4 27 = .ok (.ifCond .ne 6, 3) from by decide +kernel) (z_ne x) rfl
theorem m4_30 : M4 30 ls st H Q = M4 32 ls (.int (-5) :: st) H Q := w_con (show decode kb4 30 = .ok (.bipush (-5), 2) from by decide +kernel) rfl (by decide)
theorem m4_32 : M4 32 ls (.int z :: st) H Q = Q (some (.int z)) H := w_iret (show decode kb4 32 = .ok (.ireturn, 1) from by decide +kernel) rfl
theorem m4_33 : M4 33 [.val (.ref r)] st H Q = M4 34 [.val (.ref r)] (.ref r :: st) H Q := w_x (show decode kb4 33 = .ok (.aload_n 0, 1) from by decide +kernel) rfl
theorem m4_34 : M4 34 [.val (.ref r)] st H Q = M4 35 [.val (.ref r)] (.ref r :: st) H Q := w_x (show decode kb4 34 = .ok (.aload_n 0, 1) from by decide +kernel) rfl
theorem m4_35 : M4 35 ls st H Q = M4 36 ls (.int 0 :: st) H Q := w_con (show decode kb4 35 = .ok (.iconst 0, 1) from by decide +kernel) rfl (by decide)
theorem cr4_89 : vR tables_1 dn y4 89 = some (true, y6, prog_1_method_21_code, 8, (some .int), 1, 16) := pR_of (cR_of (by decide +kernel) rc_6 dn_6 dn_4 (sig := ⟨[.int], some .int⟩) (by decide +kernel) (by decide +kernel) rfl rfl) (by decide +kernel) (by decide +kernel)
theorem m4_36 (a0 : Int32) (u0 : Nat) : M4 36 ls [.int a0, .ref b, .ref u0] (put b pre s A post) Q = M6 0 [.val (.ref b), .val (.int a0), .unset, .unset, .unset, .unset, .unset, .unset] [] (put b pre s A post) (fun v H1 => M4 39 ls (v.toList ++ [.ref u0]) H1 Q) := w_virt (as := [.int a0]) (rest := [.ref u0]) (a := b) (show decode kb4 36 = .ok (.invokevirtual 89, 3) from by decide +kernel) cr4_89 put_o rfl rfl (Nat.le_of_ble_eq_true rfl) (by show 2 ≤ 8; omega) rfl
theorem pf4_93 : pfR tables_1 y4.cls y4.name 93 = some ("RetimingEngine", 23, .int) := by decide +kernel
theorem m4_39 : M4 39 ls (.int v :: .ref b :: st) (put b pre s A post) Q = M4 42 ls st (put b pre (ou s 6 v) A post) Q := w_put (show decode kb4 39 = .ok (.putfield 93, 3) from by decide +kernel) pf4_93 put_o (Nat.zero_le _) (by show 23 < 26; omega) rfl put_s6
theorem m4_42 : M4 42 [.val (.ref r)] st H Q = M4 43 [.val (.ref r)] (.ref r :: st) H Q := w_x (show decode kb4 42 = .ok (.aload_n 0, 1) from by decide +kernel) rfl
theorem cr4_96 : vR tables_1 dn y4 96 = some (true, y7, prog_1_method_23_code, 3, none, 0, 3) := pR_of (cR_of (by decide +kernel) rc_7 dn_7 dn_4 (sig := ⟨[], none⟩) (by decide +kernel) (by decide +kernel) rfl rfl) (by decide +kernel) (by decide +kernel)
theorem m4_43 : M4 43 ls [.ref b] (put b pre s A post) Q = M7 0 [.val (.ref b), .unset, .unset] [] (put b pre s A post) (fun v H1 => M4 46 ls (v.toList ++ []) H1 Q) := w_virt (as := []) (rest := []) (a := b) (show decode kb4 43 = .ok (.invokevirtual 96, 3) from by decide +kernel) cr4_96 put_o rfl rfl (Nat.le_of_ble_eq_true rfl) (by show 1 ≤ 3; omega) rfl
theorem m4_46 : M4 46 [.val (.ref r)] st H Q = M4 47 [.val (.ref r)] (.ref r :: st) H Q := w_x (show decode kb4 46 = .ok (.aload_n 0, 1) from by decide +kernel) rfl
theorem m4_47 : M4 47 [.val (.ref r)] st H Q = M4 48 [.val (.ref r)] (.ref r :: st) H Q := w_x (show decode kb4 47 = .ok (.aload_n 0, 1) from by decide +kernel) rfl
theorem cr4_99 : vR tables_1 dn y4 99 = some (true, y10, prog_1_method_25_code, 5, (some .int), 0, 1) := pR_of (cR_of (by decide +kernel) rc_10 dn_10 dn_4 (sig := ⟨[], some .int⟩) (by decide +kernel) (by decide +kernel) rfl rfl) (by decide +kernel) (by decide +kernel)
theorem m4_48 (u0 : Nat) : M4 48 ls [.ref b, .ref u0] (put b pre s A post) Q = M10 0 [.val (.ref b), .unset, .unset, .unset, .unset] [] (put b pre s A post) (fun v H1 => M4 51 ls (v.toList ++ [.ref u0]) H1 Q) := w_virt (as := []) (rest := [.ref u0]) (a := b) (show decode kb4 48 = .ok (.invokevirtual 99, 3) from by decide +kernel) cr4_99 put_o rfl rfl (Nat.le_of_ble_eq_true rfl) (by show 1 ≤ 5; omega) rfl
theorem pf4_82 : pfR tables_1 y4.cls y4.name 82 = some ("RetimingEngine", 24, .int) := by decide +kernel
theorem m4_51 : M4 51 ls (.int v :: .ref b :: st) (put b pre s A post) Q = M4 54 ls st (put b pre (ou s 5 v) A post) Q := w_put (show decode kb4 51 = .ok (.putfield 82, 3) from by decide +kernel) pf4_82 put_o (Nat.zero_le _) (by show 24 < 26; omega) rfl put_s5
theorem m4_54 : M4 54 [.val (.ref r)] st H Q = M4 55 [.val (.ref r)] (.ref r :: st) H Q := w_x (show decode kb4 54 = .ok (.aload_n 0, 1) from by decide +kernel) rfl
theorem m4_55 : M4 55 [.val (.ref r)] st H Q = M4 56 [.val (.ref r)] (.ref r :: st) H Q := w_x (show decode kb4 55 = .ok (.aload_n 0, 1) from by decide +kernel) rfl
theorem m4_56 : M4 56 ls (.ref b :: st) (put b pre s A post) Q = M4 59 ls (.int (s 5) :: st) (put b pre s A post) Q := w_get (show decode kb4 56 = .ok (.getfield 82, 3) from by decide +kernel) gf_82 put_o rfl
theorem cr4_103 : vR tables_1 dn y4 103 = some (true, y11, prog_1_method_26_code, 3, (some .boolean), 1, 17) := pR_of (cR_of (by decide +kernel) rc_11 dn_11 dn_4 (sig := ⟨[.int], some .boolean⟩) (by decide +kernel) (by decide +kernel) rfl rfl) (by decide +kernel) (by decide +kernel)
theorem m4_59 (a0 : Int32) : M4 59 ls [.int a0, .ref b] (put b pre s A post) Q = M11 0 [.val (.ref b), .val (.int a0), .unset] [] (put b pre s A post) (fun v H1 => M4 62 ls (v.toList ++ []) H1 Q) := w_virt (as := [.int a0]) (rest := []) (a := b) (show decode kb4 59 = .ok (.invokevirtual 103, 3) from by decide +kernel) cr4_103 put_o rfl rfl (Nat.le_of_ble_eq_true rfl) (by show 2 ≤ 3; omega) rfl
theorem m4_62 : M4 62 ls ((.int v) :: st) H Q = M4 63 ls st H Q := w_x (show decode kb4 62 = .ok (.pop, 1) from by decide +kernel) rfl
theorem m4_63 : M4 63 [.val (.ref r)] st H Q = M4 64 [.val (.ref r)] (.ref r :: st) H Q := w_x (show decode kb4 63 = .ok (.aload_n 0, 1) from by decide +kernel) rfl
theorem cr4_106 : vR tables_1 dn y4 106 = some (true, y13, prog_1_method_28_code, 2, none, 0, 36) := pR_of (cR_of (by decide +kernel) rc_13 dn_13 dn_4 (sig := ⟨[], none⟩) (by decide +kernel) (by decide +kernel) rfl rfl) (by decide +kernel) (by decide +kernel)
theorem m4_64 : M4 64 ls [.ref b] (put b pre s A post) Q = M13 0 [.val (.ref b), .unset] [] (put b pre s A post) (fun v H1 => M4 67 ls (v.toList ++ []) H1 Q) := w_virt (as := []) (rest := []) (a := b) (show decode kb4 64 = .ok (.invokevirtual 106, 3) from by decide +kernel) cr4_106 put_o rfl rfl (Nat.le_of_ble_eq_true rfl) (by show 1 ≤ 2; omega) rfl
theorem m4_67 : M4 67 [.val (.ref r)] st H Q = M4 68 [.val (.ref r)] (.ref r :: st) H Q := w_x (show decode kb4 67 = .ok (.aload_n 0, 1) from by decide +kernel) rfl
theorem m4_68 : M4 68 ls st H Q = M4 69 ls (.int 1 :: st) H Q := w_con (show decode kb4 68 = .ok (.iconst 1, 1) from by decide +kernel) rfl (by decide)
theorem m4_69 (a0 : Int32) : M4 69 ls [.int a0, .ref b] (put b pre s A post) Q = M5 0 [.val (.ref b), .val (.int a0), .unset, .unset, .unset, .unset, .unset] [] (put b pre s A post) (fun v H1 => M4 72 ls (v.toList ++ []) H1 Q) := w_virt (as := [.int a0]) (rest := []) (a := b) (show decode kb4 69 = .ok (.invokevirtual 85, 3) from by decide +kernel) cr4_85 put_o rfl rfl (Nat.le_of_ble_eq_true rfl) (by show 2 ≤ 7; omega) rfl
theorem m4_72 : M4 72 ls ((.int v) :: st) H Q = M4 73 ls st H Q := w_x (show decode kb4 72 = .ok (.pop, 1) from by decide +kernel) rfl
theorem m4_73 : M4 73 [.val (.ref r)] st H Q = M4 74 [.val (.ref r)] (.ref r :: st) H Q := w_x (show decode kb4 73 = .ok (.aload_n 0, 1) from by decide +kernel) rfl
theorem m4_74 : M4 74 [.val (.ref r)] st H Q = M4 75 [.val (.ref r)] (.ref r :: st) H Q := w_x (show decode kb4 74 = .ok (.aload_n 0, 1) from by decide +kernel) rfl
theorem m4_75 : M4 75 ls st H Q = M4 76 ls (.int 1 :: st) H Q := w_con (show decode kb4 75 = .ok (.iconst 1, 1) from by decide +kernel) rfl (by decide)
theorem m4_76 (a0 : Int32) (u0 : Nat) : M4 76 ls [.int a0, .ref b, .ref u0] (put b pre s A post) Q = M6 0 [.val (.ref b), .val (.int a0), .unset, .unset, .unset, .unset, .unset, .unset] [] (put b pre s A post) (fun v H1 => M4 79 ls (v.toList ++ [.ref u0]) H1 Q) := w_virt (as := [.int a0]) (rest := [.ref u0]) (a := b) (show decode kb4 76 = .ok (.invokevirtual 89, 3) from by decide +kernel) cr4_89 put_o rfl rfl (Nat.le_of_ble_eq_true rfl) (by show 2 ≤ 8; omega) rfl
theorem pf4_109 : pfR tables_1 y4.cls y4.name 109 = some ("RetimingEngine", 25, .int) := by decide +kernel
theorem m4_79 : M4 79 ls (.int v :: .ref b :: st) (put b pre s A post) Q = M4 82 ls st (put b pre (ou s 7 v) A post) Q := w_put (show decode kb4 79 = .ok (.putfield 109, 3) from by decide +kernel) pf4_109 put_o (Nat.zero_le _) (by show 25 < 26; omega) rfl put_s7
theorem m4_82 : M4 82 [.val (.ref r)] st H Q = M4 83 [.val (.ref r)] (.ref r :: st) H Q := w_x (show decode kb4 82 = .ok (.aload_n 0, 1) from by decide +kernel) rfl
theorem m4_83 : M4 83 ls st H Q = M4 84 ls (.int 1 :: st) H Q := w_con (show decode kb4 83 = .ok (.iconst 1, 1) from by decide +kernel) rfl (by decide)
theorem pf4_78 : pfR tables_1 y4.cls y4.name 78 = some ("RetimingEngine", 22, .boolean) := by decide +kernel
theorem m4_84 : M4 84 ls (.int v :: .ref b :: st) (put b pre s A post) Q = M4 87 ls st (put b pre (ou s 4 (nar .boolean v)) A post) Q := w_put (show decode kb4 84 = .ok (.putfield 78, 3) from by decide +kernel) pf4_78 put_o (Nat.zero_le _) (by show 22 < 26; omega) rfl put_s4
theorem m4_87 : M4 87 [.val (.ref r)] st H Q = M4 88 [.val (.ref r)] (.ref r :: st) H Q := w_x (show decode kb4 87 = .ok (.aload_n 0, 1) from by decide +kernel) rfl
theorem m4_88 : M4 88 ls (.ref b :: st) (put b pre s A post) Q = M4 91 ls (.int (s 5) :: st) (put b pre s A post) Q := w_get (show decode kb4 88 = .ok (.getfield 82, 3) from by decide +kernel) gf_82 put_o rfl
theorem m4_91 : M4 91 ls (.int z :: st) H Q = Q (some (.int z)) H := w_iret (show decode kb4 91 = .ok (.ireturn, 1) from by decide +kernel) rfl
theorem m5_0 : M5 0 ls st H Q = M5 1 ls (.int 0 :: st) H Q := w_con (show decode kb5 0 = .ok (.iconst 0, 1) from by decide +kernel) rfl (by decide)
theorem m5_1u : M5 1 [l0, l1, .unset, l3, l4, l5, l6] ((.int v) :: st) H Q = M5 2 [l0, l1, .val (.int v), l3, l4, l5, l6] st H Q := w_st (i := 2) (p := isI) (show decode kb5 1 = .ok (.istore_n 2, 1) from by decide +kernel) rfl rfl rfl rfl rfl rfl
theorem m5_2 : M5 2 [l0, l1, .val (.int v), l3, l4, l5, l6] st H Q = M5 3 [l0, l1, .val (.int v), l3, l4, l5, l6] (.int v :: st) H Q := w_x (show decode kb5 2 = .ok (.iload_n 2, 1) from by decide +kernel) rfl
theorem m5_3 : M5 3 [.val (.ref r), l1, l2, l3, l4, l5, l6] st H Q = M5 4 [.val (.ref r), l1, l2, l3, l4, l5, l6] (.ref r :: st) H Q := w_x (show decode kb5 3 = .ok (.aload_n 0, 1) from by decide +kernel) rfl
theorem m5_4 : M5 4 ls (.ref b :: st) (put b pre s A post) Q = M5 7 ls (.int (s 0) :: st) (put b pre s A post) Q := w_get (show decode kb5 4 = .ok (.getfield 65, 3) from by decide +kernel) gf_65 put_o rfl
theorem m5_7 : M5 7 ls (.int y :: .int x :: st) H Q = if x < y then M5 10 ls st H Q else M5 23 ls st H Q := w_icmpN (show decode kb5 7 = .ok (.if_icmp .ge 16, 3) from by decide +kernel) (i_ge x y) rfl
theorem m5_10 : M5 10 [.val (.ref r), l1, l2, l3, l4, l5, l6] st H Q = M5 11 [.val (.ref r), l1, l2, l3, l4, l5, l6] (.ref r :: st) H Q := w_x (show decode kb5 10 = .ok (.aload_n 0, 1) from by decide +kernel) rfl
theorem m5_11 : M5 11 ls (.ref b :: st) (put b pre s A post) Q = M5 14 ls (.ref (b + 16) :: st) (put b pre s A post) Q := w_get (show decode kb5 11 = .ok (.getfield 56, 3) from by decide +kernel) gf_56 put_o rfl
theorem m5_14 : M5 14 [l0, l1, .val (.int v), l3, l4, l5, l6] st H Q = M5 15 [l0, l1, .val (.int v), l3, l4, l5, l6] (.int v :: st) H Q := w_x (show decode kb5 14 = .ok (.iload_n 2, 1) from by decide +kernel) rfl
theorem m5_15 : M5 15 ls st H Q = M5 16 ls (.int 0 :: st) H Q := w_con (show decode kb5 15 = .ok (.iconst 0, 1) from by decide +kernel) rfl (by decide)
theorem m5_16  : M5 16 ls (.int v :: .int j :: .ref (b + 16) :: st) (put b pre s A post) Q = (inB j (A 15) ∧ M5 17 ls st (put b pre s (ou A 15 (setA (A 15) j v)) post) Q) := w_ist (show decode kb5 16 = .ok (.iastore, 1) from by decide +kernel) rfl put_a15 (Nat.zero_le _) rfl put_w15
theorem m5_17 : M5 17 [l0, l1, .val (.int v), l3, l4, l5, l6] st H Q = M5 20 [l0, l1, .val (.int (v + 1)), l3, l4, l5, l6] st H Q := w_iinc (show decode kb5 17 = .ok (.iinc 2 1, 3) from by decide +kernel) rfl (by decide) rfl
theorem m5_20 : M5 20 ls st H Q = M5 2 ls st H Q := w_x (show decode kb5 20 = .ok (.goto (-18), 3) from by decide +kernel) rfl
theorem m5_23 : M5 23 ls st H Q = M5 24 ls (.int 0 :: st) H Q := w_con (show decode kb5 23 = .ok (.iconst 0, 1) from by decide +kernel) rfl (by decide)
theorem m5_24i : M5 24 [l0, l1, .val (.int z), l3, l4, l5, l6] ((.int v) :: st) H Q = M5 25 [l0, l1, .val (.int v), l3, l4, l5, l6] st H Q := w_st (i := 2) (p := isI) (show decode kb5 24 = .ok (.istore_n 2, 1) from by decide +kernel) rfl rfl rfl rfl rfl rfl
theorem m5_25 : M5 25 [l0, l1, .val (.int v), l3, l4, l5, l6] st H Q = M5 26 [l0, l1, .val (.int v), l3, l4, l5, l6] (.int v :: st) H Q := w_x (show decode kb5 25 = .ok (.iload_n 2, 1) from by decide +kernel) rfl
theorem m5_26 : M5 26 [.val (.ref r), l1, l2, l3, l4, l5, l6] st H Q = M5 27 [.val (.ref r), l1, l2, l3, l4, l5, l6] (.ref r :: st) H Q := w_x (show decode kb5 26 = .ok (.aload_n 0, 1) from by decide +kernel) rfl
theorem m5_27 : M5 27 ls (.ref b :: st) (put b pre s A post) Q = M5 30 ls (.int (s 1) :: st) (put b pre s A post) Q := w_get (show decode kb5 27 = .ok (.getfield 69, 3) from by decide +kernel) gf_69 put_o rfl
theorem m5_30 : M5 30 ls (.int y :: .int x :: st) H Q = if x < y then M5 33 ls st H Q else M5 63 ls st H Q := w_icmpN (show decode kb5 30 = .ok (.if_icmp .ge 33, 3) from by decide +kernel) (i_ge x y) rfl
theorem m5_33 : M5 33 [.val (.ref r), l1, l2, l3, l4, l5, l6] st H Q = M5 34 [.val (.ref r), l1, l2, l3, l4, l5, l6] (.ref r :: st) H Q := w_x (show decode kb5 33 = .ok (.aload_n 0, 1) from by decide +kernel) rfl
theorem m5_34 : M5 34 [l0, l1, .val (.int v), l3, l4, l5, l6] st H Q = M5 35 [l0, l1, .val (.int v), l3, l4, l5, l6] (.int v :: st) H Q := w_x (show decode kb5 34 = .ok (.iload_n 2, 1) from by decide +kernel) rfl
theorem m5_35 : M5 35 [l0, .val (.int v), l2, l3, l4, l5, l6] st H Q = M5 36 [l0, .val (.int v), l2, l3, l4, l5, l6] (.int v :: st) H Q := w_x (show decode kb5 35 = .ok (.iload_n 1, 1) from by decide +kernel) rfl
theorem cr5_121 : vR tables_1 dn y5 121 = some (true, y17, prog_1_method_19_code, 3, (some .int), 2, 0) := pR_of (cR_of (by decide +kernel) rc_17 dn_17 dn_5 (sig := ⟨[.int, .int], some .int⟩) (by decide +kernel) (by decide +kernel) rfl rfl) (by decide +kernel) (by decide +kernel)
theorem m5_36 (a0 : Int32) (a1 : Int32) : M5 36 ls [.int a1, .int a0, .ref b] (put b pre s A post) Q = M17 0 [.val (.ref b), .val (.int a0), .val (.int a1)] [] (put b pre s A post) (fun v H1 => M5 39 ls (v.toList ++ []) H1 Q) := w_virt (as := [.int a1, .int a0]) (rest := []) (a := b) (show decode kb5 36 = .ok (.invokevirtual 121, 3) from by decide +kernel) cr5_121 put_o rfl rfl (Nat.le_of_ble_eq_true rfl) (by show 3 ≤ 3; omega) rfl
theorem m5_39 : M5 39 ls (.int x :: st) H Q = if x = 0 then M5 42 ls st H Q else M5 57 ls st H Q := w_ifN (show decode kb5 39 = .ok (.ifCond .ne 18, 3) from by decide +kernel) (z_ne x) rfl
theorem m5_42 : M5 42 [.val (.ref r), l1, l2, l3, l4, l5, l6] st H Q = M5 43 [.val (.ref r), l1, l2, l3, l4, l5, l6] (.ref r :: st) H Q := w_x (show decode kb5 42 = .ok (.aload_n 0, 1) from by decide +kernel) rfl
theorem m5_43 : M5 43 ls (.ref b :: st) (put b pre s A post) Q = M5 46 ls (.ref (b + 16) :: st) (put b pre s A post) Q := w_get (show decode kb5 43 = .ok (.getfield 56, 3) from by decide +kernel) gf_56 put_o rfl
theorem m5_46 : M5 46 [.val (.ref r), l1, l2, l3, l4, l5, l6] st H Q = M5 47 [.val (.ref r), l1, l2, l3, l4, l5, l6] (.ref r :: st) H Q := w_x (show decode kb5 46 = .ok (.aload_n 0, 1) from by decide +kernel) rfl
theorem m5_47 : M5 47 ls (.ref b :: st) (put b pre s A post) Q = M5 50 ls (.ref (b + 5) :: st) (put b pre s A post) Q := w_get (show decode kb5 47 = .ok (.getfield 22, 3) from by decide +kernel) gf_22 put_o rfl
theorem m5_50 : M5 50 [l0, l1, .val (.int v), l3, l4, l5, l6] st H Q = M5 51 [l0, l1, .val (.int v), l3, l4, l5, l6] (.int v :: st) H Q := w_x (show decode kb5 50 = .ok (.iload_n 2, 1) from by decide +kernel) rfl
theorem m5_51  : M5 51 ls (.int j :: .ref (b + 5) :: st) (put b pre s A post) Q = (inB j (A 4) ∧ M5 52 ls (.int (getA (A 4) j) :: st) (put b pre s A post) Q) := w_ild (show decode kb5 51 = .ok (.iaload, 1) from by decide +kernel) rfl put_a4
theorem m5_52 : M5 52 ls (.int x :: .ref q :: st) H Q = M5 53 ls (.int x :: .ref q :: .int x :: .ref q :: st) H Q := w_x (show decode kb5 52 = .ok (.dup2, 1) from by decide +kernel) rfl
theorem m5_53  : M5 53 ls (.int j :: .ref (b + 16) :: st) (put b pre s A post) Q = (inB j (A 15) ∧ M5 54 ls (.int (getA (A 15) j) :: st) (put b pre s A post) Q) := w_ild (show decode kb5 53 = .ok (.iaload, 1) from by decide +kernel) rfl put_a15
theorem m5_54 : M5 54 ls st H Q = M5 55 ls (.int 1 :: st) H Q := w_con (show decode kb5 54 = .ok (.iconst 1, 1) from by decide +kernel) rfl (by decide)
theorem m5_55 : M5 55 ls (.int y :: .int x :: st) H Q = M5 56 ls (.int (x + y) :: st) H Q := w_x (show decode kb5 55 = .ok (.iadd, 1) from by decide +kernel) rfl
theorem m5_56  : M5 56 ls (.int v :: .int j :: .ref (b + 16) :: st) (put b pre s A post) Q = (inB j (A 15) ∧ M5 57 ls st (put b pre s (ou A 15 (setA (A 15) j v)) post) Q) := w_ist (show decode kb5 56 = .ok (.iastore, 1) from by decide +kernel) rfl put_a15 (Nat.zero_le _) rfl put_w15
theorem m5_57 : M5 57 [l0, l1, .val (.int v), l3, l4, l5, l6] st H Q = M5 60 [l0, l1, .val (.int (v + 1)), l3, l4, l5, l6] st H Q := w_iinc (show decode kb5 57 = .ok (.iinc 2 1, 3) from by decide +kernel) rfl (by decide) rfl
theorem m5_60 : M5 60 ls st H Q = M5 25 ls st H Q := w_x (show decode kb5 60 = .ok (.goto (-35), 3) from by decide +kernel) rfl
theorem m5_63 : M5 63 ls st H Q = M5 64 ls (.int 0 :: st) H Q := w_con (show decode kb5 63 = .ok (.iconst 0, 1) from by decide +kernel) rfl (by decide)
theorem m5_64i : M5 64 [l0, l1, .val (.int z), l3, l4, l5, l6] ((.int v) :: st) H Q = M5 65 [l0, l1, .val (.int v), l3, l4, l5, l6] st H Q := w_st (i := 2) (p := isI) (show decode kb5 64 = .ok (.istore_n 2, 1) from by decide +kernel) rfl rfl rfl rfl rfl rfl
theorem m5_65 : M5 65 ls st H Q = M5 66 ls (.int 0 :: st) H Q := w_con (show decode kb5 65 = .ok (.iconst 0, 1) from by decide +kernel) rfl (by decide)
theorem m5_66u : M5 66 [l0, l1, l2, .unset, l4, l5, l6] ((.int v) :: st) H Q = M5 67 [l0, l1, l2, .val (.int v), l4, l5, l6] st H Q := w_st (i := 3) (p := isI) (show decode kb5 66 = .ok (.istore_n 3, 1) from by decide +kernel) rfl rfl rfl rfl rfl rfl
theorem m5_67 : M5 67 [l0, l1, l2, .val (.int v), l4, l5, l6] st H Q = M5 68 [l0, l1, l2, .val (.int v), l4, l5, l6] (.int v :: st) H Q := w_x (show decode kb5 67 = .ok (.iload_n 3, 1) from by decide +kernel) rfl
theorem m5_68 : M5 68 [.val (.ref r), l1, l2, l3, l4, l5, l6] st H Q = M5 69 [.val (.ref r), l1, l2, l3, l4, l5, l6] (.ref r :: st) H Q := w_x (show decode kb5 68 = .ok (.aload_n 0, 1) from by decide +kernel) rfl
theorem m5_69 : M5 69 ls (.ref b :: st) (put b pre s A post) Q = M5 72 ls (.int (s 0) :: st) (put b pre s A post) Q := w_get (show decode kb5 69 = .ok (.getfield 65, 3) from by decide +kernel) gf_65 put_o rfl
theorem m5_72 : M5 72 ls (.int y :: .int x :: st) H Q = if x < y then M5 75 ls st H Q else M5 106 ls st H Q := w_icmpN (show decode kb5 72 = .ok (.if_icmp .ge 34, 3) from by decide +kernel) (i_ge x y) rfl
theorem m5_75 : M5 75 [.val (.ref r), l1, l2, l3, l4, l5, l6] st H Q = M5 76 [.val (.ref r), l1, l2, l3, l4, l5, l6] (.ref r :: st) H Q := w_x (show decode kb5 75 = .ok (.aload_n 0, 1) from by decide +kernel) rfl
theorem m5_76 : M5 76 ls (.ref b :: st) (put b pre s A post) Q = M5 79 ls (.ref (b + 16) :: st) (put b pre s A post) Q := w_get (show decode kb5 76 = .ok (.getfield 56, 3) from by decide +kernel) gf_56 put_o rfl
theorem m5_79 : M5 79 [l0, l1, l2, .val (.int v), l4, l5, l6] st H Q = M5 80 [l0, l1, l2, .val (.int v), l4, l5, l6] (.int v :: st) H Q := w_x (show decode kb5 79 = .ok (.iload_n 3, 1) from by decide +kernel) rfl
theorem m5_80  : M5 80 ls (.int j :: .ref (b + 16) :: st) (put b pre s A post) Q = (inB j (A 15) ∧ M5 81 ls (.int (getA (A 15) j) :: st) (put b pre s A post) Q) := w_ild (show decode kb5 80 = .ok (.iaload, 1) from by decide +kernel) rfl put_a15
theorem m5_81 : M5 81 ls (.int x :: st) H Q = if x = 0 then M5 84 ls st H Q else M5 100 ls st H Q := w_ifN (show decode kb5 81 = .ok (.ifCond .ne 19, 3) from by decide +kernel) (z_ne x) rfl
theorem m5_84 : M5 84 [l0, l1, .val (.int v), l3, l4, l5, l6] st H Q = M5 85 [l0, l1, .val (.int v), l3, l4, l5, l6] (.int v :: st) H Q := w_x (show decode kb5 84 = .ok (.iload_n 2, 1) from by decide +kernel) rfl
theorem m5_85 : M5 85 ls st H Q = M5 87 ls (.int 32 :: st) H Q := w_con (show decode kb5 85 = .ok (.bipush 32, 2) from by decide +kernel) rfl (by decide)
theorem m5_87 : M5 87 ls (.int y :: .int x :: st) H Q = if x < y then M5 90 ls st H Q else M5 100 ls st H Q := w_icmpN (show decode kb5 87 = .ok (.if_icmp .ge 13, 3) from by decide +kernel) (i_ge x y) rfl
theorem m5_90 : M5 90 [.val (.ref r), l1, l2, l3, l4, l5, l6] st H Q = M5 91 [.val (.ref r), l1, l2, l3, l4, l5, l6] (.ref r :: st) H Q := w_x (show decode kb5 90 = .ok (.aload_n 0, 1) from by decide +kernel) rfl
theorem m5_91 : M5 91 ls (.ref b :: st) (put b pre s A post) Q = M5 94 ls (.ref (b + 15) :: st) (put b pre s A post) Q := w_get (show decode kb5 91 = .ok (.getfield 53, 3) from by decide +kernel) gf_53 put_o rfl
theorem m5_94 : M5 94 [l0, l1, .val (.int v), l3, l4, l5, l6] st H Q = M5 95 [l0, l1, .val (.int v), l3, l4, l5, l6] (.int v :: st) H Q := w_x (show decode kb5 94 = .ok (.iload_n 2, 1) from by decide +kernel) rfl
theorem m5_95 : M5 95 [l0, l1, l2, .val (.int v), l4, l5, l6] st H Q = M5 96 [l0, l1, l2, .val (.int v), l4, l5, l6] (.int v :: st) H Q := w_x (show decode kb5 95 = .ok (.iload_n 3, 1) from by decide +kernel) rfl
theorem m5_96  : M5 96 ls (.int v :: .int j :: .ref (b + 15) :: st) (put b pre s A post) Q = (inB j (A 14) ∧ M5 97 ls st (put b pre s (ou A 14 (setA (A 14) j v)) post) Q) := w_ist (show decode kb5 96 = .ok (.iastore, 1) from by decide +kernel) rfl put_a14 (Nat.zero_le _) rfl put_w14
theorem m5_97 : M5 97 [l0, l1, .val (.int v), l3, l4, l5, l6] st H Q = M5 100 [l0, l1, .val (.int (v + 1)), l3, l4, l5, l6] st H Q := w_iinc (show decode kb5 97 = .ok (.iinc 2 1, 3) from by decide +kernel) rfl (by decide) rfl
theorem m5_100 : M5 100 [l0, l1, l2, .val (.int v), l4, l5, l6] st H Q = M5 103 [l0, l1, l2, .val (.int (v + 1)), l4, l5, l6] st H Q := w_iinc (show decode kb5 100 = .ok (.iinc 3 1, 3) from by decide +kernel) rfl (by decide) rfl
theorem m5_103 : M5 103 ls st H Q = M5 67 ls st H Q := w_x (show decode kb5 103 = .ok (.goto (-36), 3) from by decide +kernel) rfl
theorem m5_106 : M5 106 ls st H Q = M5 107 ls (.int 0 :: st) H Q := w_con (show decode kb5 106 = .ok (.iconst 0, 1) from by decide +kernel) rfl (by decide)
theorem m5_107i : M5 107 [l0, l1, l2, .val (.int z), l4, l5, l6] ((.int v) :: st) H Q = M5 108 [l0, l1, l2, .val (.int v), l4, l5, l6] st H Q := w_st (i := 3) (p := isI) (show decode kb5 107 = .ok (.istore_n 3, 1) from by decide +kernel) rfl rfl rfl rfl rfl rfl
theorem m5_108 : M5 108 [l0, l1, l2, .val (.int v), l4, l5, l6] st H Q = M5 109 [l0, l1, l2, .val (.int v), l4, l5, l6] (.int v :: st) H Q := w_x (show decode kb5 108 = .ok (.iload_n 3, 1) from by decide +kernel) rfl
theorem m5_109 : M5 109 [l0, l1, .val (.int v), l3, l4, l5, l6] st H Q = M5 110 [l0, l1, .val (.int v), l3, l4, l5, l6] (.int v :: st) H Q := w_x (show decode kb5 109 = .ok (.iload_n 2, 1) from by decide +kernel) rfl
theorem m5_110 : M5 110 ls (.int y :: .int x :: st) H Q = if x < y then M5 113 ls st H Q else M5 220 ls st H Q := w_icmpN (show decode kb5 110 = .ok (.if_icmp .ge 110, 3) from by decide +kernel) (i_ge x y) rfl
theorem m5_113 : M5 113 [l0, l1, l2, .val (.int v), l4, l5, l6] st H Q = M5 114 [l0, l1, l2, .val (.int v), l4, l5, l6] (.int v :: st) H Q := w_x (show decode kb5 113 = .ok (.iload_n 3, 1) from by decide +kernel) rfl
theorem m5_114 : M5 114 ls st H Q = M5 116 ls (.int 32 :: st) H Q := w_con (show decode kb5 114 = .ok (.bipush 32, 2) from by decide +kernel) rfl (by decide)
theorem m5_116 : M5 116 ls (.int y :: .int x :: st) H Q = if x < y then M5 119 ls st H Q else M5 220 ls st H Q := w_icmpN (show decode kb5 116 = .ok (.if_icmp .ge 104, 3) from by decide +kernel) (i_ge x y) rfl
theorem m5_119 : M5 119 [.val (.ref r), l1, l2, l3, l4, l5, l6] st H Q = M5 120 [.val (.ref r), l1, l2, l3, l4, l5, l6] (.ref r :: st) H Q := w_x (show decode kb5 119 = .ok (.aload_n 0, 1) from by decide +kernel) rfl
theorem m5_120 : M5 120 ls (.ref b :: st) (put b pre s A post) Q = M5 123 ls (.ref (b + 15) :: st) (put b pre s A post) Q := w_get (show decode kb5 120 = .ok (.getfield 53, 3) from by decide +kernel) gf_53 put_o rfl
theorem m5_123 : M5 123 [l0, l1, l2, .val (.int v), l4, l5, l6] st H Q = M5 124 [l0, l1, l2, .val (.int v), l4, l5, l6] (.int v :: st) H Q := w_x (show decode kb5 123 = .ok (.iload_n 3, 1) from by decide +kernel) rfl
theorem m5_124  : M5 124 ls (.int j :: .ref (b + 15) :: st) (put b pre s A post) Q = (inB j (A 14) ∧ M5 125 ls (.int (getA (A 14) j) :: st) (put b pre s A post) Q) := w_ild (show decode kb5 124 = .ok (.iaload, 1) from by decide +kernel) rfl put_a14
theorem m5_125u : M5 125 [l0, l1, l2, l3, .unset, l5, l6] ((.int v) :: st) H Q = M5 127 [l0, l1, l2, l3, .val (.int v), l5, l6] st H Q := w_st (i := 4) (p := isI) (show decode kb5 125 = .ok (.istore 4, 2) from by decide +kernel) rfl rfl rfl rfl rfl rfl
theorem m5_125i : M5 125 [l0, l1, l2, l3, .val (.int z), l5, l6] ((.int v) :: st) H Q = M5 127 [l0, l1, l2, l3, .val (.int v), l5, l6] st H Q := w_st (i := 4) (p := isI) (show decode kb5 125 = .ok (.istore 4, 2) from by decide +kernel) rfl rfl rfl rfl rfl rfl
theorem m5_125r : M5 125 [l0, l1, l2, l3, .val (.ref q), l5, l6] ((.int v) :: st) H Q = M5 127 [l0, l1, l2, l3, .val (.int v), l5, l6] st H Q := w_st (i := 4) (p := isI) (show decode kb5 125 = .ok (.istore 4, 2) from by decide +kernel) rfl rfl rfl rfl rfl rfl
theorem m5_127 : M5 127 ls st H Q = M5 128 ls (.int 0 :: st) H Q := w_con (show decode kb5 127 = .ok (.iconst 0, 1) from by decide +kernel) rfl (by decide)
theorem m5_128u : M5 128 [l0, l1, l2, l3, l4, .unset, l6] ((.int v) :: st) H Q = M5 130 [l0, l1, l2, l3, l4, .val (.int v), l6] st H Q := w_st (i := 5) (p := isI) (show decode kb5 128 = .ok (.istore 5, 2) from by decide +kernel) rfl rfl rfl rfl rfl rfl
theorem m5_128i : M5 128 [l0, l1, l2, l3, l4, .val (.int z), l6] ((.int v) :: st) H Q = M5 130 [l0, l1, l2, l3, l4, .val (.int v), l6] st H Q := w_st (i := 5) (p := isI) (show decode kb5 128 = .ok (.istore 5, 2) from by decide +kernel) rfl rfl rfl rfl rfl rfl
theorem m5_128r : M5 128 [l0, l1, l2, l3, l4, .val (.ref q), l6] ((.int v) :: st) H Q = M5 130 [l0, l1, l2, l3, l4, .val (.int v), l6] st H Q := w_st (i := 5) (p := isI) (show decode kb5 128 = .ok (.istore 5, 2) from by decide +kernel) rfl rfl rfl rfl rfl rfl
theorem m5_130 : M5 130 [l0, l1, l2, l3, l4, .val (.int v), l6] st H Q = M5 132 [l0, l1, l2, l3, l4, .val (.int v), l6] (.int v :: st) H Q := w_x (show decode kb5 130 = .ok (.iload 5, 2) from by decide +kernel) rfl
theorem m5_132 : M5 132 [.val (.ref r), l1, l2, l3, l4, l5, l6] st H Q = M5 133 [.val (.ref r), l1, l2, l3, l4, l5, l6] (.ref r :: st) H Q := w_x (show decode kb5 132 = .ok (.aload_n 0, 1) from by decide +kernel) rfl
theorem m5_133 : M5 133 ls (.ref b :: st) (put b pre s A post) Q = M5 136 ls (.int (s 1) :: st) (put b pre s A post) Q := w_get (show decode kb5 133 = .ok (.getfield 69, 3) from by decide +kernel) gf_69 put_o rfl
theorem m5_136 : M5 136 ls (.int y :: .int x :: st) H Q = if x < y then M5 139 ls st H Q else M5 214 ls st H Q := w_icmpN (show decode kb5 136 = .ok (.if_icmp .ge 78, 3) from by decide +kernel) (i_ge x y) rfl
theorem m5_139 : M5 139 [.val (.ref r), l1, l2, l3, l4, l5, l6] st H Q = M5 140 [.val (.ref r), l1, l2, l3, l4, l5, l6] (.ref r :: st) H Q := w_x (show decode kb5 139 = .ok (.aload_n 0, 1) from by decide +kernel) rfl
theorem m5_140 : M5 140 ls (.ref b :: st) (put b pre s A post) Q = M5 143 ls (.ref (b + 4) :: st) (put b pre s A post) Q := w_get (show decode kb5 140 = .ok (.getfield 19, 3) from by decide +kernel) gf_19 put_o rfl
theorem m5_143 : M5 143 [l0, l1, l2, l3, l4, .val (.int v), l6] st H Q = M5 145 [l0, l1, l2, l3, l4, .val (.int v), l6] (.int v :: st) H Q := w_x (show decode kb5 143 = .ok (.iload 5, 2) from by decide +kernel) rfl
theorem m5_145  : M5 145 ls (.int j :: .ref (b + 4) :: st) (put b pre s A post) Q = (inB j (A 3) ∧ M5 146 ls (.int (getA (A 3) j) :: st) (put b pre s A post) Q) := w_ild (show decode kb5 145 = .ok (.iaload, 1) from by decide +kernel) rfl put_a3
theorem m5_146 : M5 146 [l0, l1, l2, l3, .val (.int v), l5, l6] st H Q = M5 148 [l0, l1, l2, l3, .val (.int v), l5, l6] (.int v :: st) H Q := w_x (show decode kb5 146 = .ok (.iload 4, 2) from by decide +kernel) rfl
theorem m5_148 : M5 148 ls (.int y :: .int x :: st) H Q = if x = y then M5 151 ls st H Q else M5 208 ls st H Q := w_icmpN (show decode kb5 148 = .ok (.if_icmp .ne 60, 3) from by decide +kernel) (i_ne x y) rfl
theorem m5_151 : M5 151 [.val (.ref r), l1, l2, l3, l4, l5, l6] st H Q = M5 152 [.val (.ref r), l1, l2, l3, l4, l5, l6] (.ref r :: st) H Q := w_x (show decode kb5 151 = .ok (.aload_n 0, 1) from by decide +kernel) rfl
theorem m5_152 : M5 152 [l0, l1, l2, l3, l4, .val (.int v), l6] st H Q = M5 154 [l0, l1, l2, l3, l4, .val (.int v), l6] (.int v :: st) H Q := w_x (show decode kb5 152 = .ok (.iload 5, 2) from by decide +kernel) rfl
theorem m5_154 : M5 154 [l0, .val (.int v), l2, l3, l4, l5, l6] st H Q = M5 155 [l0, .val (.int v), l2, l3, l4, l5, l6] (.int v :: st) H Q := w_x (show decode kb5 154 = .ok (.iload_n 1, 1) from by decide +kernel) rfl
theorem m5_155 (a0 : Int32) (a1 : Int32) : M5 155 ls [.int a1, .int a0, .ref b] (put b pre s A post) Q = M17 0 [.val (.ref b), .val (.int a0), .val (.int a1)] [] (put b pre s A post) (fun v H1 => M5 158 ls (v.toList ++ []) H1 Q) := w_virt (as := [.int a1, .int a0]) (rest := []) (a := b) (show decode kb5 155 = .ok (.invokevirtual 121, 3) from by decide +kernel) cr5_121 put_o rfl rfl (Nat.le_of_ble_eq_true rfl) (by show 3 ≤ 3; omega) rfl
theorem m5_158 : M5 158 ls (.int x :: st) H Q = if x = 0 then M5 161 ls st H Q else M5 208 ls st H Q := w_ifN (show decode kb5 158 = .ok (.ifCond .ne 50, 3) from by decide +kernel) (z_ne x) rfl
theorem m5_161 : M5 161 [.val (.ref r), l1, l2, l3, l4, l5, l6] st H Q = M5 162 [.val (.ref r), l1, l2, l3, l4, l5, l6] (.ref r :: st) H Q := w_x (show decode kb5 161 = .ok (.aload_n 0, 1) from by decide +kernel) rfl
theorem m5_162 : M5 162 ls (.ref b :: st) (put b pre s A post) Q = M5 165 ls (.ref (b + 5) :: st) (put b pre s A post) Q := w_get (show decode kb5 162 = .ok (.getfield 22, 3) from by decide +kernel) gf_22 put_o rfl
theorem m5_165 : M5 165 [l0, l1, l2, l3, l4, .val (.int v), l6] st H Q = M5 167 [l0, l1, l2, l3, l4, .val (.int v), l6] (.int v :: st) H Q := w_x (show decode kb5 165 = .ok (.iload 5, 2) from by decide +kernel) rfl
theorem m5_167  : M5 167 ls (.int j :: .ref (b + 5) :: st) (put b pre s A post) Q = (inB j (A 4) ∧ M5 168 ls (.int (getA (A 4) j) :: st) (put b pre s A post) Q) := w_ild (show decode kb5 167 = .ok (.iaload, 1) from by decide +kernel) rfl put_a4
theorem m5_168u : M5 168 [l0, l1, l2, l3, l4, l5, .unset] ((.int v) :: st) H Q = M5 170 [l0, l1, l2, l3, l4, l5, .val (.int v)] st H Q := w_st (i := 6) (p := isI) (show decode kb5 168 = .ok (.istore 6, 2) from by decide +kernel) rfl rfl rfl rfl rfl rfl
theorem m5_168i : M5 168 [l0, l1, l2, l3, l4, l5, .val (.int z)] ((.int v) :: st) H Q = M5 170 [l0, l1, l2, l3, l4, l5, .val (.int v)] st H Q := w_st (i := 6) (p := isI) (show decode kb5 168 = .ok (.istore 6, 2) from by decide +kernel) rfl rfl rfl rfl rfl rfl
theorem m5_168r : M5 168 [l0, l1, l2, l3, l4, l5, .val (.ref q)] ((.int v) :: st) H Q = M5 170 [l0, l1, l2, l3, l4, l5, .val (.int v)] st H Q := w_st (i := 6) (p := isI) (show decode kb5 168 = .ok (.istore 6, 2) from by decide +kernel) rfl rfl rfl rfl rfl rfl
theorem m5_170 : M5 170 [.val (.ref r), l1, l2, l3, l4, l5, l6] st H Q = M5 171 [.val (.ref r), l1, l2, l3, l4, l5, l6] (.ref r :: st) H Q := w_x (show decode kb5 170 = .ok (.aload_n 0, 1) from by decide +kernel) rfl
theorem m5_171 : M5 171 ls (.ref b :: st) (put b pre s A post) Q = M5 174 ls (.ref (b + 16) :: st) (put b pre s A post) Q := w_get (show decode kb5 171 = .ok (.getfield 56, 3) from by decide +kernel) gf_56 put_o rfl
theorem m5_174 : M5 174 [l0, l1, l2, l3, l4, l5, .val (.int v)] st H Q = M5 176 [l0, l1, l2, l3, l4, l5, .val (.int v)] (.int v :: st) H Q := w_x (show decode kb5 174 = .ok (.iload 6, 2) from by decide +kernel) rfl
theorem m5_176 : M5 176 ls (.int x :: .ref q :: st) H Q = M5 177 ls (.int x :: .ref q :: .int x :: .ref q :: st) H Q := w_x (show decode kb5 176 = .ok (.dup2, 1) from by decide +kernel) rfl
theorem m5_177  : M5 177 ls (.int j :: .ref (b + 16) :: st) (put b pre s A post) Q = (inB j (A 15) ∧ M5 178 ls (.int (getA (A 15) j) :: st) (put b pre s A post) Q) := w_ild (show decode kb5 177 = .ok (.iaload, 1) from by decide +kernel) rfl put_a15
theorem m5_178 : M5 178 ls st H Q = M5 179 ls (.int 1 :: st) H Q := w_con (show decode kb5 178 = .ok (.iconst 1, 1) from by decide +kernel) rfl (by decide)
theorem m5_179 : M5 179 ls (.int y :: .int x :: st) H Q = M5 180 ls (.int (x - y) :: st) H Q := w_x (show decode kb5 179 = .ok (.isub, 1) from by decide +kernel) rfl
theorem m5_180  : M5 180 ls (.int v :: .int j :: .ref (b + 16) :: st) (put b pre s A post) Q = (inB j (A 15) ∧ M5 181 ls st (put b pre s (ou A 15 (setA (A 15) j v)) post) Q) := w_ist (show decode kb5 180 = .ok (.iastore, 1) from by decide +kernel) rfl put_a15 (Nat.zero_le _) rfl put_w15
theorem m5_181 : M5 181 [.val (.ref r), l1, l2, l3, l4, l5, l6] st H Q = M5 182 [.val (.ref r), l1, l2, l3, l4, l5, l6] (.ref r :: st) H Q := w_x (show decode kb5 181 = .ok (.aload_n 0, 1) from by decide +kernel) rfl
theorem m5_182 : M5 182 ls (.ref b :: st) (put b pre s A post) Q = M5 185 ls (.ref (b + 16) :: st) (put b pre s A post) Q := w_get (show decode kb5 182 = .ok (.getfield 56, 3) from by decide +kernel) gf_56 put_o rfl
theorem m5_185 : M5 185 [l0, l1, l2, l3, l4, l5, .val (.int v)] st H Q = M5 187 [l0, l1, l2, l3, l4, l5, .val (.int v)] (.int v :: st) H Q := w_x (show decode kb5 185 = .ok (.iload 6, 2) from by decide +kernel) rfl
theorem m5_187  : M5 187 ls (.int j :: .ref (b + 16) :: st) (put b pre s A post) Q = (inB j (A 15) ∧ M5 188 ls (.int (getA (A 15) j) :: st) (put b pre s A post) Q) := w_ild (show decode kb5 187 = .ok (.iaload, 1) from by decide +kernel) rfl put_a15
theorem m5_188 : M5 188 ls (.int x :: st) H Q = if x = 0 then M5 191 ls st H Q else M5 208 ls st H Q := w_ifN (show decode kb5 188 = .ok (.ifCond .ne 20, 3) from by decide +kernel) (z_ne x) rfl
theorem m5_191 : M5 191 [l0, l1, .val (.int v), l3, l4, l5, l6] st H Q = M5 192 [l0, l1, .val (.int v), l3, l4, l5, l6] (.int v :: st) H Q := w_x (show decode kb5 191 = .ok (.iload_n 2, 1) from by decide +kernel) rfl
theorem m5_192 : M5 192 ls st H Q = M5 194 ls (.int 32 :: st) H Q := w_con (show decode kb5 192 = .ok (.bipush 32, 2) from by decide +kernel) rfl (by decide)
theorem m5_194 : M5 194 ls (.int y :: .int x :: st) H Q = if x < y then M5 197 ls st H Q else M5 208 ls st H Q := w_icmpN (show decode kb5 194 = .ok (.if_icmp .ge 14, 3) from by decide +kernel) (i_ge x y) rfl
theorem m5_197 : M5 197 [.val (.ref r), l1, l2, l3, l4, l5, l6] st H Q = M5 198 [.val (.ref r), l1, l2, l3, l4, l5, l6] (.ref r :: st) H Q := w_x (show decode kb5 197 = .ok (.aload_n 0, 1) from by decide +kernel) rfl
theorem m5_198 : M5 198 ls (.ref b :: st) (put b pre s A post) Q = M5 201 ls (.ref (b + 15) :: st) (put b pre s A post) Q := w_get (show decode kb5 198 = .ok (.getfield 53, 3) from by decide +kernel) gf_53 put_o rfl
theorem m5_201 : M5 201 [l0, l1, .val (.int v), l3, l4, l5, l6] st H Q = M5 202 [l0, l1, .val (.int v), l3, l4, l5, l6] (.int v :: st) H Q := w_x (show decode kb5 201 = .ok (.iload_n 2, 1) from by decide +kernel) rfl
theorem m5_202 : M5 202 [l0, l1, l2, l3, l4, l5, .val (.int v)] st H Q = M5 204 [l0, l1, l2, l3, l4, l5, .val (.int v)] (.int v :: st) H Q := w_x (show decode kb5 202 = .ok (.iload 6, 2) from by decide +kernel) rfl
theorem m5_204  : M5 204 ls (.int v :: .int j :: .ref (b + 15) :: st) (put b pre s A post) Q = (inB j (A 14) ∧ M5 205 ls st (put b pre s (ou A 14 (setA (A 14) j v)) post) Q) := w_ist (show decode kb5 204 = .ok (.iastore, 1) from by decide +kernel) rfl put_a14 (Nat.zero_le _) rfl put_w14
theorem m5_205 : M5 205 [l0, l1, .val (.int v), l3, l4, l5, l6] st H Q = M5 208 [l0, l1, .val (.int (v + 1)), l3, l4, l5, l6] st H Q := w_iinc (show decode kb5 205 = .ok (.iinc 2 1, 3) from by decide +kernel) rfl (by decide) rfl
theorem m5_208 : M5 208 [l0, l1, l2, l3, l4, .val (.int v), l6] st H Q = M5 211 [l0, l1, l2, l3, l4, .val (.int (v + 1)), l6] st H Q := w_iinc (show decode kb5 208 = .ok (.iinc 5 1, 3) from by decide +kernel) rfl (by decide) rfl
theorem m5_211 : M5 211 ls st H Q = M5 130 ls st H Q := w_x (show decode kb5 211 = .ok (.goto (-81), 3) from by decide +kernel) rfl
theorem m5_214 : M5 214 [l0, l1, l2, .val (.int v), l4, l5, l6] st H Q = M5 217 [l0, l1, l2, .val (.int (v + 1)), l4, l5, l6] st H Q := w_iinc (show decode kb5 214 = .ok (.iinc 3 1, 3) from by decide +kernel) rfl (by decide) rfl
theorem m5_217 : M5 217 ls st H Q = M5 108 ls st H Q := w_x (show decode kb5 217 = .ok (.goto (-109), 3) from by decide +kernel) rfl
theorem m5_220 : M5 220 [l0, l1, .val (.int v), l3, l4, l5, l6] st H Q = M5 221 [l0, l1, .val (.int v), l3, l4, l5, l6] (.int v :: st) H Q := w_x (show decode kb5 220 = .ok (.iload_n 2, 1) from by decide +kernel) rfl
theorem m5_221 : M5 221 [.val (.ref r), l1, l2, l3, l4, l5, l6] st H Q = M5 222 [.val (.ref r), l1, l2, l3, l4, l5, l6] (.ref r :: st) H Q := w_x (show decode kb5 221 = .ok (.aload_n 0, 1) from by decide +kernel) rfl
theorem m5_222 : M5 222 ls (.ref b :: st) (put b pre s A post) Q = M5 225 ls (.int (s 0) :: st) (put b pre s A post) Q := w_get (show decode kb5 222 = .ok (.getfield 65, 3) from by decide +kernel) gf_65 put_o rfl
theorem m5_225 : M5 225 ls (.int y :: .int x :: st) H Q = if x = y then M5 228 ls st H Q else M5 232 ls st H Q := w_icmpN (show decode kb5 225 = .ok (.if_icmp .ne 7, 3) from by decide +kernel) (i_ne x y) rfl
theorem m5_228 : M5 228 ls st H Q = M5 229 ls (.int 1 :: st) H Q := w_con (show decode kb5 228 = .ok (.iconst 1, 1) from by decide +kernel) rfl (by decide)
theorem m5_229 : M5 229 ls st H Q = M5 233 ls st H Q := w_x (show decode kb5 229 = .ok (.goto 4, 3) from by decide +kernel) rfl
theorem m5_232 : M5 232 ls st H Q = M5 233 ls (.int 0 :: st) H Q := w_con (show decode kb5 232 = .ok (.iconst 0, 1) from by decide +kernel) rfl (by decide)
theorem m5_233 : M5 233 ls (.int z :: st) H Q = Q (some (.int (nar .boolean z))) H := w_iretN (show decode kb5 233 = .ok (.ireturn, 1) from by decide +kernel) rfl (by simp)
theorem m6_0 : M6 0 ls st H Q = M6 1 ls (.int 0 :: st) H Q := w_con (show decode kb6 0 = .ok (.iconst 0, 1) from by decide +kernel) rfl (by decide)
theorem m6_1u : M6 1 [l0, l1, .unset, l3, l4, l5, l6, l7] ((.int v) :: st) H Q = M6 2 [l0, l1, .val (.int v), l3, l4, l5, l6, l7] st H Q := w_st (i := 2) (p := isI) (show decode kb6 1 = .ok (.istore_n 2, 1) from by decide +kernel) rfl rfl rfl rfl rfl rfl
theorem m6_2 : M6 2 ls st H Q = M6 3 ls (.int 0 :: st) H Q := w_con (show decode kb6 2 = .ok (.iconst 0, 1) from by decide +kernel) rfl (by decide)
theorem m6_3u : M6 3 [l0, l1, l2, .unset, l4, l5, l6, l7] ((.int v) :: st) H Q = M6 4 [l0, l1, l2, .val (.int v), l4, l5, l6, l7] st H Q := w_st (i := 3) (p := isI) (show decode kb6 3 = .ok (.istore_n 3, 1) from by decide +kernel) rfl rfl rfl rfl rfl rfl
theorem m6_4 : M6 4 [l0, l1, l2, .val (.int v), l4, l5, l6, l7] st H Q = M6 5 [l0, l1, l2, .val (.int v), l4, l5, l6, l7] (.int v :: st) H Q := w_x (show decode kb6 4 = .ok (.iload_n 3, 1) from by decide +kernel) rfl
theorem m6_5 : M6 5 [.val (.ref r), l1, l2, l3, l4, l5, l6, l7] st H Q = M6 6 [.val (.ref r), l1, l2, l3, l4, l5, l6, l7] (.ref r :: st) H Q := w_x (show decode kb6 5 = .ok (.aload_n 0, 1) from by decide +kernel) rfl
theorem m6_6 : M6 6 ls (.ref b :: st) (put b pre s A post) Q = M6 9 ls (.int (s 0) :: st) (put b pre s A post) Q := w_get (show decode kb6 6 = .ok (.getfield 65, 3) from by decide +kernel) gf_65 put_o rfl
theorem m6_9 : M6 9 ls (.int y :: .int x :: st) H Q = if x < y then M6 12 ls st H Q else M6 126 ls st H Q := w_icmpN (show decode kb6 9 = .ok (.if_icmp .ge 117, 3) from by decide +kernel) (i_ge x y) rfl
theorem m6_12 : M6 12 [.val (.ref r), l1, l2, l3, l4, l5, l6, l7] st H Q = M6 13 [.val (.ref r), l1, l2, l3, l4, l5, l6, l7] (.ref r :: st) H Q := w_x (show decode kb6 12 = .ok (.aload_n 0, 1) from by decide +kernel) rfl
theorem m6_13 : M6 13 ls (.ref b :: st) (put b pre s A post) Q = M6 16 ls (.ref (b + 15) :: st) (put b pre s A post) Q := w_get (show decode kb6 13 = .ok (.getfield 53, 3) from by decide +kernel) gf_53 put_o rfl
theorem m6_16 : M6 16 [l0, l1, l2, .val (.int v), l4, l5, l6, l7] st H Q = M6 17 [l0, l1, l2, .val (.int v), l4, l5, l6, l7] (.int v :: st) H Q := w_x (show decode kb6 16 = .ok (.iload_n 3, 1) from by decide +kernel) rfl
theorem m6_17  : M6 17 ls (.int j :: .ref (b + 15) :: st) (put b pre s A post) Q = (inB j (A 14) ∧ M6 18 ls (.int (getA (A 14) j) :: st) (put b pre s A post) Q) := w_ild (show decode kb6 17 = .ok (.iaload, 1) from by decide +kernel) rfl put_a14
theorem m6_18u : M6 18 [l0, l1, l2, l3, .unset, l5, l6, l7] ((.int v) :: st) H Q = M6 20 [l0, l1, l2, l3, .val (.int v), l5, l6, l7] st H Q := w_st (i := 4) (p := isI) (show decode kb6 18 = .ok (.istore 4, 2) from by decide +kernel) rfl rfl rfl rfl rfl rfl
theorem m6_18i : M6 18 [l0, l1, l2, l3, .val (.int z), l5, l6, l7] ((.int v) :: st) H Q = M6 20 [l0, l1, l2, l3, .val (.int v), l5, l6, l7] st H Q := w_st (i := 4) (p := isI) (show decode kb6 18 = .ok (.istore 4, 2) from by decide +kernel) rfl rfl rfl rfl rfl rfl
theorem m6_18r : M6 18 [l0, l1, l2, l3, .val (.ref q), l5, l6, l7] ((.int v) :: st) H Q = M6 20 [l0, l1, l2, l3, .val (.int v), l5, l6, l7] st H Q := w_st (i := 4) (p := isI) (show decode kb6 18 = .ok (.istore 4, 2) from by decide +kernel) rfl rfl rfl rfl rfl rfl
theorem m6_20 : M6 20 [.val (.ref r), l1, l2, l3, l4, l5, l6, l7] st H Q = M6 21 [.val (.ref r), l1, l2, l3, l4, l5, l6, l7] (.ref r :: st) H Q := w_x (show decode kb6 20 = .ok (.aload_n 0, 1) from by decide +kernel) rfl
theorem m6_21 : M6 21 ls (.ref b :: st) (put b pre s A post) Q = M6 24 ls (.ref (b + 2) :: st) (put b pre s A post) Q := w_get (show decode kb6 21 = .ok (.getfield 13, 3) from by decide +kernel) gf_13 put_o rfl
theorem m6_24 : M6 24 [l0, l1, l2, l3, .val (.int v), l5, l6, l7] st H Q = M6 26 [l0, l1, l2, l3, .val (.int v), l5, l6, l7] (.int v :: st) H Q := w_x (show decode kb6 24 = .ok (.iload 4, 2) from by decide +kernel) rfl
theorem m6_26  : M6 26 ls (.int j :: .ref (b + 2) :: st) (put b pre s A post) Q = (inB j (A 1) ∧ M6 27 ls (.int (getA (A 1) j) :: st) (put b pre s A post) Q) := w_ild (show decode kb6 26 = .ok (.iaload, 1) from by decide +kernel) rfl put_a1
theorem m6_27u : M6 27 [l0, l1, l2, l3, l4, .unset, l6, l7] ((.int v) :: st) H Q = M6 29 [l0, l1, l2, l3, l4, .val (.int v), l6, l7] st H Q := w_st (i := 5) (p := isI) (show decode kb6 27 = .ok (.istore 5, 2) from by decide +kernel) rfl rfl rfl rfl rfl rfl
theorem m6_27i : M6 27 [l0, l1, l2, l3, l4, .val (.int z), l6, l7] ((.int v) :: st) H Q = M6 29 [l0, l1, l2, l3, l4, .val (.int v), l6, l7] st H Q := w_st (i := 5) (p := isI) (show decode kb6 27 = .ok (.istore 5, 2) from by decide +kernel) rfl rfl rfl rfl rfl rfl
theorem m6_27r : M6 27 [l0, l1, l2, l3, l4, .val (.ref q), l6, l7] ((.int v) :: st) H Q = M6 29 [l0, l1, l2, l3, l4, .val (.int v), l6, l7] st H Q := w_st (i := 5) (p := isI) (show decode kb6 27 = .ok (.istore 5, 2) from by decide +kernel) rfl rfl rfl rfl rfl rfl
theorem m6_29 : M6 29 ls st H Q = M6 30 ls (.int 0 :: st) H Q := w_con (show decode kb6 29 = .ok (.iconst 0, 1) from by decide +kernel) rfl (by decide)
theorem m6_30u : M6 30 [l0, l1, l2, l3, l4, l5, .unset, l7] ((.int v) :: st) H Q = M6 32 [l0, l1, l2, l3, l4, l5, .val (.int v), l7] st H Q := w_st (i := 6) (p := isI) (show decode kb6 30 = .ok (.istore 6, 2) from by decide +kernel) rfl rfl rfl rfl rfl rfl
theorem m6_30i : M6 30 [l0, l1, l2, l3, l4, l5, .val (.int z), l7] ((.int v) :: st) H Q = M6 32 [l0, l1, l2, l3, l4, l5, .val (.int v), l7] st H Q := w_st (i := 6) (p := isI) (show decode kb6 30 = .ok (.istore 6, 2) from by decide +kernel) rfl rfl rfl rfl rfl rfl
theorem m6_30r : M6 30 [l0, l1, l2, l3, l4, l5, .val (.ref q), l7] ((.int v) :: st) H Q = M6 32 [l0, l1, l2, l3, l4, l5, .val (.int v), l7] st H Q := w_st (i := 6) (p := isI) (show decode kb6 30 = .ok (.istore 6, 2) from by decide +kernel) rfl rfl rfl rfl rfl rfl
theorem m6_32 : M6 32 [l0, l1, l2, l3, l4, l5, .val (.int v), l7] st H Q = M6 34 [l0, l1, l2, l3, l4, l5, .val (.int v), l7] (.int v :: st) H Q := w_x (show decode kb6 32 = .ok (.iload 6, 2) from by decide +kernel) rfl
theorem m6_34 : M6 34 [.val (.ref r), l1, l2, l3, l4, l5, l6, l7] st H Q = M6 35 [.val (.ref r), l1, l2, l3, l4, l5, l6, l7] (.ref r :: st) H Q := w_x (show decode kb6 34 = .ok (.aload_n 0, 1) from by decide +kernel) rfl
theorem m6_35 : M6 35 ls (.ref b :: st) (put b pre s A post) Q = M6 38 ls (.int (s 1) :: st) (put b pre s A post) Q := w_get (show decode kb6 35 = .ok (.getfield 69, 3) from by decide +kernel) gf_69 put_o rfl
theorem m6_38 : M6 38 ls (.int y :: .int x :: st) H Q = if x < y then M6 41 ls st H Q else M6 102 ls st H Q := w_icmpN (show decode kb6 38 = .ok (.if_icmp .ge 64, 3) from by decide +kernel) (i_ge x y) rfl
theorem m6_41 : M6 41 [.val (.ref r), l1, l2, l3, l4, l5, l6, l7] st H Q = M6 42 [.val (.ref r), l1, l2, l3, l4, l5, l6, l7] (.ref r :: st) H Q := w_x (show decode kb6 41 = .ok (.aload_n 0, 1) from by decide +kernel) rfl
theorem m6_42 : M6 42 ls (.ref b :: st) (put b pre s A post) Q = M6 45 ls (.ref (b + 5) :: st) (put b pre s A post) Q := w_get (show decode kb6 42 = .ok (.getfield 22, 3) from by decide +kernel) gf_22 put_o rfl
theorem m6_45 : M6 45 [l0, l1, l2, l3, l4, l5, .val (.int v), l7] st H Q = M6 47 [l0, l1, l2, l3, l4, l5, .val (.int v), l7] (.int v :: st) H Q := w_x (show decode kb6 45 = .ok (.iload 6, 2) from by decide +kernel) rfl
theorem m6_47  : M6 47 ls (.int j :: .ref (b + 5) :: st) (put b pre s A post) Q = (inB j (A 4) ∧ M6 48 ls (.int (getA (A 4) j) :: st) (put b pre s A post) Q) := w_ild (show decode kb6 47 = .ok (.iaload, 1) from by decide +kernel) rfl put_a4
theorem m6_48 : M6 48 [l0, l1, l2, l3, .val (.int v), l5, l6, l7] st H Q = M6 50 [l0, l1, l2, l3, .val (.int v), l5, l6, l7] (.int v :: st) H Q := w_x (show decode kb6 48 = .ok (.iload 4, 2) from by decide +kernel) rfl
theorem m6_50 : M6 50 ls (.int y :: .int x :: st) H Q = if x = y then M6 53 ls st H Q else M6 96 ls st H Q := w_icmpN (show decode kb6 50 = .ok (.if_icmp .ne 46, 3) from by decide +kernel) (i_ne x y) rfl
theorem m6_53 : M6 53 [.val (.ref r), l1, l2, l3, l4, l5, l6, l7] st H Q = M6 54 [.val (.ref r), l1, l2, l3, l4, l5, l6, l7] (.ref r :: st) H Q := w_x (show decode kb6 53 = .ok (.aload_n 0, 1) from by decide +kernel) rfl
theorem m6_54 : M6 54 [l0, l1, l2, l3, l4, l5, .val (.int v), l7] st H Q = M6 56 [l0, l1, l2, l3, l4, l5, .val (.int v), l7] (.int v :: st) H Q := w_x (show decode kb6 54 = .ok (.iload 6, 2) from by decide +kernel) rfl
theorem m6_56 : M6 56 [l0, .val (.int v), l2, l3, l4, l5, l6, l7] st H Q = M6 57 [l0, .val (.int v), l2, l3, l4, l5, l6, l7] (.int v :: st) H Q := w_x (show decode kb6 56 = .ok (.iload_n 1, 1) from by decide +kernel) rfl
theorem cr6_121 : vR tables_1 dn y6 121 = some (true, y17, prog_1_method_19_code, 3, (some .int), 2, 0) := pR_of (cR_of (by decide +kernel) rc_17 dn_17 dn_6 (sig := ⟨[.int, .int], some .int⟩) (by decide +kernel) (by decide +kernel) rfl rfl) (by decide +kernel) (by decide +kernel)
theorem m6_57 (a0 : Int32) (a1 : Int32) : M6 57 ls [.int a1, .int a0, .ref b] (put b pre s A post) Q = M17 0 [.val (.ref b), .val (.int a0), .val (.int a1)] [] (put b pre s A post) (fun v H1 => M6 60 ls (v.toList ++ []) H1 Q) := w_virt (as := [.int a1, .int a0]) (rest := []) (a := b) (show decode kb6 57 = .ok (.invokevirtual 121, 3) from by decide +kernel) cr6_121 put_o rfl rfl (Nat.le_of_ble_eq_true rfl) (by show 3 ≤ 3; omega) rfl
theorem m6_60 : M6 60 ls (.int x :: st) H Q = if x = 0 then M6 63 ls st H Q else M6 96 ls st H Q := w_ifN (show decode kb6 60 = .ok (.ifCond .ne 36, 3) from by decide +kernel) (z_ne x) rfl
theorem m6_63 : M6 63 [.val (.ref r), l1, l2, l3, l4, l5, l6, l7] st H Q = M6 64 [.val (.ref r), l1, l2, l3, l4, l5, l6, l7] (.ref r :: st) H Q := w_x (show decode kb6 63 = .ok (.aload_n 0, 1) from by decide +kernel) rfl
theorem m6_64 : M6 64 ls (.ref b :: st) (put b pre s A post) Q = M6 67 ls (.ref (b + 17) :: st) (put b pre s A post) Q := w_get (show decode kb6 64 = .ok (.getfield 59, 3) from by decide +kernel) gf_59 put_o rfl
theorem m6_67 : M6 67 [.val (.ref r), l1, l2, l3, l4, l5, l6, l7] st H Q = M6 68 [.val (.ref r), l1, l2, l3, l4, l5, l6, l7] (.ref r :: st) H Q := w_x (show decode kb6 67 = .ok (.aload_n 0, 1) from by decide +kernel) rfl
theorem m6_68 : M6 68 ls (.ref b :: st) (put b pre s A post) Q = M6 71 ls (.ref (b + 4) :: st) (put b pre s A post) Q := w_get (show decode kb6 68 = .ok (.getfield 19, 3) from by decide +kernel) gf_19 put_o rfl
theorem m6_71 : M6 71 [l0, l1, l2, l3, l4, l5, .val (.int v), l7] st H Q = M6 73 [l0, l1, l2, l3, l4, l5, .val (.int v), l7] (.int v :: st) H Q := w_x (show decode kb6 71 = .ok (.iload 6, 2) from by decide +kernel) rfl
theorem m6_73  : M6 73 ls (.int j :: .ref (b + 4) :: st) (put b pre s A post) Q = (inB j (A 3) ∧ M6 74 ls (.int (getA (A 3) j) :: st) (put b pre s A post) Q) := w_ild (show decode kb6 73 = .ok (.iaload, 1) from by decide +kernel) rfl put_a3
theorem m6_74  : M6 74 ls (.int j :: .ref (b + 17) :: st) (put b pre s A post) Q = (inB j (A 16) ∧ M6 75 ls (.int (getA (A 16) j) :: st) (put b pre s A post) Q) := w_ild (show decode kb6 74 = .ok (.iaload, 1) from by decide +kernel) rfl put_a16
theorem m6_75 : M6 75 [.val (.ref r), l1, l2, l3, l4, l5, l6, l7] st H Q = M6 76 [.val (.ref r), l1, l2, l3, l4, l5, l6, l7] (.ref r :: st) H Q := w_x (show decode kb6 75 = .ok (.aload_n 0, 1) from by decide +kernel) rfl
theorem m6_76 : M6 76 ls (.ref b :: st) (put b pre s A post) Q = M6 79 ls (.ref (b + 2) :: st) (put b pre s A post) Q := w_get (show decode kb6 76 = .ok (.getfield 13, 3) from by decide +kernel) gf_13 put_o rfl
theorem m6_79 : M6 79 [l0, l1, l2, l3, .val (.int v), l5, l6, l7] st H Q = M6 81 [l0, l1, l2, l3, .val (.int v), l5, l6, l7] (.int v :: st) H Q := w_x (show decode kb6 79 = .ok (.iload 4, 2) from by decide +kernel) rfl
theorem m6_81  : M6 81 ls (.int j :: .ref (b + 2) :: st) (put b pre s A post) Q = (inB j (A 1) ∧ M6 82 ls (.int (getA (A 1) j) :: st) (put b pre s A post) Q) := w_ild (show decode kb6 81 = .ok (.iaload, 1) from by decide +kernel) rfl put_a1
theorem m6_82 : M6 82 ls (.int y :: .int x :: st) H Q = M6 83 ls (.int (x + y) :: st) H Q := w_x (show decode kb6 82 = .ok (.iadd, 1) from by decide +kernel) rfl
theorem m6_83u : M6 83 [l0, l1, l2, l3, l4, l5, l6, .unset] ((.int v) :: st) H Q = M6 85 [l0, l1, l2, l3, l4, l5, l6, .val (.int v)] st H Q := w_st (i := 7) (p := isI) (show decode kb6 83 = .ok (.istore 7, 2) from by decide +kernel) rfl rfl rfl rfl rfl rfl
theorem m6_83i : M6 83 [l0, l1, l2, l3, l4, l5, l6, .val (.int z)] ((.int v) :: st) H Q = M6 85 [l0, l1, l2, l3, l4, l5, l6, .val (.int v)] st H Q := w_st (i := 7) (p := isI) (show decode kb6 83 = .ok (.istore 7, 2) from by decide +kernel) rfl rfl rfl rfl rfl rfl
theorem m6_83r : M6 83 [l0, l1, l2, l3, l4, l5, l6, .val (.ref q)] ((.int v) :: st) H Q = M6 85 [l0, l1, l2, l3, l4, l5, l6, .val (.int v)] st H Q := w_st (i := 7) (p := isI) (show decode kb6 83 = .ok (.istore 7, 2) from by decide +kernel) rfl rfl rfl rfl rfl rfl
theorem m6_85 : M6 85 [l0, l1, l2, l3, l4, l5, l6, .val (.int v)] st H Q = M6 87 [l0, l1, l2, l3, l4, l5, l6, .val (.int v)] (.int v :: st) H Q := w_x (show decode kb6 85 = .ok (.iload 7, 2) from by decide +kernel) rfl
theorem m6_87 : M6 87 [l0, l1, l2, l3, l4, .val (.int v), l6, l7] st H Q = M6 89 [l0, l1, l2, l3, l4, .val (.int v), l6, l7] (.int v :: st) H Q := w_x (show decode kb6 87 = .ok (.iload 5, 2) from by decide +kernel) rfl
theorem m6_89 : M6 89 ls (.int y :: .int x :: st) H Q = if y < x then M6 92 ls st H Q else M6 96 ls st H Q := w_icmpN (show decode kb6 89 = .ok (.if_icmp .le 7, 3) from by decide +kernel) (i_le x y) rfl
theorem m6_92 : M6 92 [l0, l1, l2, l3, l4, l5, l6, .val (.int v)] st H Q = M6 94 [l0, l1, l2, l3, l4, l5, l6, .val (.int v)] (.int v :: st) H Q := w_x (show decode kb6 92 = .ok (.iload 7, 2) from by decide +kernel) rfl
theorem m6_94i : M6 94 [l0, l1, l2, l3, l4, .val (.int z), l6, l7] ((.int v) :: st) H Q = M6 96 [l0, l1, l2, l3, l4, .val (.int v), l6, l7] st H Q := w_st (i := 5) (p := isI) (show decode kb6 94 = .ok (.istore 5, 2) from by decide +kernel) rfl rfl rfl rfl rfl rfl
theorem m6_96 : M6 96 [l0, l1, l2, l3, l4, l5, .val (.int v), l7] st H Q = M6 99 [l0, l1, l2, l3, l4, l5, .val (.int (v + 1)), l7] st H Q := w_iinc (show decode kb6 96 = .ok (.iinc 6 1, 3) from by decide +kernel) rfl (by decide) rfl
theorem m6_99 : M6 99 ls st H Q = M6 32 ls st H Q := w_x (show decode kb6 99 = .ok (.goto (-67), 3) from by decide +kernel) rfl
theorem m6_102 : M6 102 [.val (.ref r), l1, l2, l3, l4, l5, l6, l7] st H Q = M6 103 [.val (.ref r), l1, l2, l3, l4, l5, l6, l7] (.ref r :: st) H Q := w_x (show decode kb6 102 = .ok (.aload_n 0, 1) from by decide +kernel) rfl
theorem m6_103 : M6 103 ls (.ref b :: st) (put b pre s A post) Q = M6 106 ls (.ref (b + 17) :: st) (put b pre s A post) Q := w_get (show decode kb6 103 = .ok (.getfield 59, 3) from by decide +kernel) gf_59 put_o rfl
theorem m6_106 : M6 106 [l0, l1, l2, l3, .val (.int v), l5, l6, l7] st H Q = M6 108 [l0, l1, l2, l3, .val (.int v), l5, l6, l7] (.int v :: st) H Q := w_x (show decode kb6 106 = .ok (.iload 4, 2) from by decide +kernel) rfl
theorem m6_108 : M6 108 [l0, l1, l2, l3, l4, .val (.int v), l6, l7] st H Q = M6 110 [l0, l1, l2, l3, l4, .val (.int v), l6, l7] (.int v :: st) H Q := w_x (show decode kb6 108 = .ok (.iload 5, 2) from by decide +kernel) rfl
theorem m6_110  : M6 110 ls (.int v :: .int j :: .ref (b + 17) :: st) (put b pre s A post) Q = (inB j (A 16) ∧ M6 111 ls st (put b pre s (ou A 16 (setA (A 16) j v)) post) Q) := w_ist (show decode kb6 110 = .ok (.iastore, 1) from by decide +kernel) rfl put_a16 (Nat.zero_le _) rfl put_w16
theorem m6_111 : M6 111 [l0, l1, l2, l3, l4, .val (.int v), l6, l7] st H Q = M6 113 [l0, l1, l2, l3, l4, .val (.int v), l6, l7] (.int v :: st) H Q := w_x (show decode kb6 111 = .ok (.iload 5, 2) from by decide +kernel) rfl
theorem m6_113 : M6 113 [l0, l1, .val (.int v), l3, l4, l5, l6, l7] st H Q = M6 114 [l0, l1, .val (.int v), l3, l4, l5, l6, l7] (.int v :: st) H Q := w_x (show decode kb6 113 = .ok (.iload_n 2, 1) from by decide +kernel) rfl
theorem m6_114 : M6 114 ls (.int y :: .int x :: st) H Q = if y < x then M6 117 ls st H Q else M6 120 ls st H Q := w_icmpN (show decode kb6 114 = .ok (.if_icmp .le 6, 3) from by decide +kernel) (i_le x y) rfl
theorem m6_117 : M6 117 [l0, l1, l2, l3, l4, .val (.int v), l6, l7] st H Q = M6 119 [l0, l1, l2, l3, l4, .val (.int v), l6, l7] (.int v :: st) H Q := w_x (show decode kb6 117 = .ok (.iload 5, 2) from by decide +kernel) rfl
theorem m6_119i : M6 119 [l0, l1, .val (.int z), l3, l4, l5, l6, l7] ((.int v) :: st) H Q = M6 120 [l0, l1, .val (.int v), l3, l4, l5, l6, l7] st H Q := w_st (i := 2) (p := isI) (show decode kb6 119 = .ok (.istore_n 2, 1) from by decide +kernel) rfl rfl rfl rfl rfl rfl
theorem m6_120 : M6 120 [l0, l1, l2, .val (.int v), l4, l5, l6, l7] st H Q = M6 123 [l0, l1, l2, .val (.int (v + 1)), l4, l5, l6, l7] st H Q := w_iinc (show decode kb6 120 = .ok (.iinc 3 1, 3) from by decide +kernel) rfl (by decide) rfl
theorem m6_123 : M6 123 ls st H Q = M6 4 ls st H Q := w_x (show decode kb6 123 = .ok (.goto (-119), 3) from by decide +kernel) rfl
theorem m6_126 : M6 126 [l0, l1, .val (.int v), l3, l4, l5, l6, l7] st H Q = M6 127 [l0, l1, .val (.int v), l3, l4, l5, l6, l7] (.int v :: st) H Q := w_x (show decode kb6 126 = .ok (.iload_n 2, 1) from by decide +kernel) rfl
theorem m6_127 : M6 127 ls (.int z :: st) H Q = Q (some (.int z)) H := w_iret (show decode kb6 127 = .ok (.ireturn, 1) from by decide +kernel) rfl
theorem m7_0 : M7 0 ls st H Q = M7 1 ls (.int 0 :: st) H Q := w_con (show decode kb7 0 = .ok (.iconst 0, 1) from by decide +kernel) rfl (by decide)
theorem m7_1u : M7 1 [l0, .unset, l2] ((.int v) :: st) H Q = M7 2 [l0, .val (.int v), l2] st H Q := w_st (i := 1) (p := isI) (show decode kb7 1 = .ok (.istore_n 1, 1) from by decide +kernel) rfl rfl rfl rfl rfl rfl
theorem m7_2 : M7 2 [l0, .val (.int v), l2] st H Q = M7 3 [l0, .val (.int v), l2] (.int v :: st) H Q := w_x (show decode kb7 2 = .ok (.iload_n 1, 1) from by decide +kernel) rfl
theorem m7_3 : M7 3 [.val (.ref r), l1, l2] st H Q = M7 4 [.val (.ref r), l1, l2] (.ref r :: st) H Q := w_x (show decode kb7 3 = .ok (.aload_n 0, 1) from by decide +kernel) rfl
theorem m7_4 : M7 4 ls (.ref b :: st) (put b pre s A post) Q = M7 7 ls (.int (s 0) :: st) (put b pre s A post) Q := w_get (show decode kb7 4 = .ok (.getfield 65, 3) from by decide +kernel) gf_65 put_o rfl
theorem m7_7 : M7 7 ls (.int y :: .int x :: st) H Q = if x < y then M7 10 ls st H Q else M7 44 ls st H Q := w_icmpN (show decode kb7 7 = .ok (.if_icmp .ge 37, 3) from by decide +kernel) (i_ge x y) rfl
theorem m7_10 : M7 10 ls st H Q = M7 11 ls (.int 0 :: st) H Q := w_con (show decode kb7 10 = .ok (.iconst 0, 1) from by decide +kernel) rfl (by decide)
theorem m7_11u : M7 11 [l0, l1, .unset] ((.int v) :: st) H Q = M7 12 [l0, l1, .val (.int v)] st H Q := w_st (i := 2) (p := isI) (show decode kb7 11 = .ok (.istore_n 2, 1) from by decide +kernel) rfl rfl rfl rfl rfl rfl
theorem m7_11i : M7 11 [l0, l1, .val (.int z)] ((.int v) :: st) H Q = M7 12 [l0, l1, .val (.int v)] st H Q := w_st (i := 2) (p := isI) (show decode kb7 11 = .ok (.istore_n 2, 1) from by decide +kernel) rfl rfl rfl rfl rfl rfl
theorem m7_11r : M7 11 [l0, l1, .val (.ref q)] ((.int v) :: st) H Q = M7 12 [l0, l1, .val (.int v)] st H Q := w_st (i := 2) (p := isI) (show decode kb7 11 = .ok (.istore_n 2, 1) from by decide +kernel) rfl rfl rfl rfl rfl rfl
theorem m7_12 : M7 12 [l0, l1, .val (.int v)] st H Q = M7 13 [l0, l1, .val (.int v)] (.int v :: st) H Q := w_x (show decode kb7 12 = .ok (.iload_n 2, 1) from by decide +kernel) rfl
theorem m7_13 : M7 13 [.val (.ref r), l1, l2] st H Q = M7 14 [.val (.ref r), l1, l2] (.ref r :: st) H Q := w_x (show decode kb7 13 = .ok (.aload_n 0, 1) from by decide +kernel) rfl
theorem m7_14 : M7 14 ls (.ref b :: st) (put b pre s A post) Q = M7 17 ls (.int (s 0) :: st) (put b pre s A post) Q := w_get (show decode kb7 14 = .ok (.getfield 65, 3) from by decide +kernel) gf_65 put_o rfl
theorem m7_17 : M7 17 ls (.int y :: .int x :: st) H Q = if x < y then M7 20 ls st H Q else M7 38 ls st H Q := w_icmpN (show decode kb7 17 = .ok (.if_icmp .ge 21, 3) from by decide +kernel) (i_ge x y) rfl
theorem m7_20 : M7 20 [.val (.ref r), l1, l2] st H Q = M7 21 [.val (.ref r), l1, l2] (.ref r :: st) H Q := w_x (show decode kb7 20 = .ok (.aload_n 0, 1) from by decide +kernel) rfl
theorem m7_21 : M7 21 ls (.ref b :: st) (put b pre s A post) Q = M7 24 ls (.ref (b + 12) :: st) (put b pre s A post) Q := w_get (show decode kb7 21 = .ok (.getfield 43, 3) from by decide +kernel) gf_43 put_o rfl
theorem m7_24 : M7 24 [l0, .val (.int v), l2] st H Q = M7 25 [l0, .val (.int v), l2] (.int v :: st) H Q := w_x (show decode kb7 24 = .ok (.iload_n 1, 1) from by decide +kernel) rfl
theorem m7_25 : M7 25 ls st H Q = M7 27 ls (.int 32 :: st) H Q := w_con (show decode kb7 25 = .ok (.bipush 32, 2) from by decide +kernel) rfl (by decide)
theorem m7_27 : M7 27 ls (.int y :: .int x :: st) H Q = M7 28 ls (.int (x * y) :: st) H Q := w_x (show decode kb7 27 = .ok (.imul, 1) from by decide +kernel) rfl
theorem m7_28 : M7 28 [l0, l1, .val (.int v)] st H Q = M7 29 [l0, l1, .val (.int v)] (.int v :: st) H Q := w_x (show decode kb7 28 = .ok (.iload_n 2, 1) from by decide +kernel) rfl
theorem m7_29 : M7 29 ls (.int y :: .int x :: st) H Q = M7 30 ls (.int (x + y) :: st) H Q := w_x (show decode kb7 29 = .ok (.iadd, 1) from by decide +kernel) rfl
theorem m7_30 : M7 30 ls st H Q = M7 31 ls (.int 0 :: st) H Q := w_con (show decode kb7 30 = .ok (.iconst 0, 1) from by decide +kernel) rfl (by decide)
theorem m7_31  : M7 31 ls (.int v :: .int j :: .ref (b + 12) :: st) (put b pre s A post) Q = (inB j (A 11) ∧ M7 32 ls st (put b pre s (ou A 11 (setA (A 11) j (nar .boolean v))) post) Q) := w_ist (show decode kb7 31 = .ok (.bastore, 1) from by decide +kernel) rfl put_a11 (Nat.zero_le _) rfl put_w11
theorem m7_32 : M7 32 [l0, l1, .val (.int v)] st H Q = M7 35 [l0, l1, .val (.int (v + 1))] st H Q := w_iinc (show decode kb7 32 = .ok (.iinc 2 1, 3) from by decide +kernel) rfl (by decide) rfl
theorem m7_35 : M7 35 ls st H Q = M7 12 ls st H Q := w_x (show decode kb7 35 = .ok (.goto (-23), 3) from by decide +kernel) rfl
theorem m7_38 : M7 38 [l0, .val (.int v), l2] st H Q = M7 41 [l0, .val (.int (v + 1)), l2] st H Q := w_iinc (show decode kb7 38 = .ok (.iinc 1 1, 3) from by decide +kernel) rfl (by decide) rfl
theorem m7_41 : M7 41 ls st H Q = M7 2 ls st H Q := w_x (show decode kb7 41 = .ok (.goto (-39), 3) from by decide +kernel) rfl
theorem m7_44 : M7 44 ls st H Q = M7 45 ls (.int 0 :: st) H Q := w_con (show decode kb7 44 = .ok (.iconst 0, 1) from by decide +kernel) rfl (by decide)
theorem m7_45i : M7 45 [l0, .val (.int z), l2] ((.int v) :: st) H Q = M7 46 [l0, .val (.int v), l2] st H Q := w_st (i := 1) (p := isI) (show decode kb7 45 = .ok (.istore_n 1, 1) from by decide +kernel) rfl rfl rfl rfl rfl rfl
theorem m7_46 : M7 46 [l0, .val (.int v), l2] st H Q = M7 47 [l0, .val (.int v), l2] (.int v :: st) H Q := w_x (show decode kb7 46 = .ok (.iload_n 1, 1) from by decide +kernel) rfl
theorem m7_47 : M7 47 [.val (.ref r), l1, l2] st H Q = M7 48 [.val (.ref r), l1, l2] (.ref r :: st) H Q := w_x (show decode kb7 47 = .ok (.aload_n 0, 1) from by decide +kernel) rfl
theorem m7_48 : M7 48 ls (.ref b :: st) (put b pre s A post) Q = M7 51 ls (.int (s 0) :: st) (put b pre s A post) Q := w_get (show decode kb7 48 = .ok (.getfield 65, 3) from by decide +kernel) gf_65 put_o rfl
theorem m7_51 : M7 51 ls (.int y :: .int x :: st) H Q = if x < y then M7 54 ls st H Q else M7 88 ls st H Q := w_icmpN (show decode kb7 51 = .ok (.if_icmp .ge 37, 3) from by decide +kernel) (i_ge x y) rfl
theorem m7_54 : M7 54 [l0, .val (.int v), l2] st H Q = M7 55 [l0, .val (.int v), l2] (.int v :: st) H Q := w_x (show decode kb7 54 = .ok (.iload_n 1, 1) from by decide +kernel) rfl
theorem m7_55 : M7 55 ls st H Q = M7 57 ls (.int 32 :: st) H Q := w_con (show decode kb7 55 = .ok (.bipush 32, 2) from by decide +kernel) rfl (by decide)
theorem m7_57 : M7 57 ls (.int y :: .int x :: st) H Q = M7 58 ls (.int (x * y) :: st) H Q := w_x (show decode kb7 57 = .ok (.imul, 1) from by decide +kernel) rfl
theorem m7_58 : M7 58 [l0, .val (.int v), l2] st H Q = M7 59 [l0, .val (.int v), l2] (.int v :: st) H Q := w_x (show decode kb7 58 = .ok (.iload_n 1, 1) from by decide +kernel) rfl
theorem m7_59 : M7 59 ls (.int y :: .int x :: st) H Q = M7 60 ls (.int (x + y) :: st) H Q := w_x (show decode kb7 59 = .ok (.iadd, 1) from by decide +kernel) rfl
theorem m7_60u : M7 60 [l0, l1, .unset] ((.int v) :: st) H Q = M7 61 [l0, l1, .val (.int v)] st H Q := w_st (i := 2) (p := isI) (show decode kb7 60 = .ok (.istore_n 2, 1) from by decide +kernel) rfl rfl rfl rfl rfl rfl
theorem m7_60i : M7 60 [l0, l1, .val (.int z)] ((.int v) :: st) H Q = M7 61 [l0, l1, .val (.int v)] st H Q := w_st (i := 2) (p := isI) (show decode kb7 60 = .ok (.istore_n 2, 1) from by decide +kernel) rfl rfl rfl rfl rfl rfl
theorem m7_60r : M7 60 [l0, l1, .val (.ref q)] ((.int v) :: st) H Q = M7 61 [l0, l1, .val (.int v)] st H Q := w_st (i := 2) (p := isI) (show decode kb7 60 = .ok (.istore_n 2, 1) from by decide +kernel) rfl rfl rfl rfl rfl rfl
theorem m7_61 : M7 61 [.val (.ref r), l1, l2] st H Q = M7 62 [.val (.ref r), l1, l2] (.ref r :: st) H Q := w_x (show decode kb7 61 = .ok (.aload_n 0, 1) from by decide +kernel) rfl
theorem m7_62 : M7 62 ls (.ref b :: st) (put b pre s A post) Q = M7 65 ls (.ref (b + 12) :: st) (put b pre s A post) Q := w_get (show decode kb7 62 = .ok (.getfield 43, 3) from by decide +kernel) gf_43 put_o rfl
theorem m7_65 : M7 65 [l0, l1, .val (.int v)] st H Q = M7 66 [l0, l1, .val (.int v)] (.int v :: st) H Q := w_x (show decode kb7 65 = .ok (.iload_n 2, 1) from by decide +kernel) rfl
theorem m7_66 : M7 66 ls st H Q = M7 67 ls (.int 1 :: st) H Q := w_con (show decode kb7 66 = .ok (.iconst 1, 1) from by decide +kernel) rfl (by decide)
theorem m7_67  : M7 67 ls (.int v :: .int j :: .ref (b + 12) :: st) (put b pre s A post) Q = (inB j (A 11) ∧ M7 68 ls st (put b pre s (ou A 11 (setA (A 11) j (nar .boolean v))) post) Q) := w_ist (show decode kb7 67 = .ok (.bastore, 1) from by decide +kernel) rfl put_a11 (Nat.zero_le _) rfl put_w11
theorem m7_68 : M7 68 [.val (.ref r), l1, l2] st H Q = M7 69 [.val (.ref r), l1, l2] (.ref r :: st) H Q := w_x (show decode kb7 68 = .ok (.aload_n 0, 1) from by decide +kernel) rfl
theorem m7_69 : M7 69 ls (.ref b :: st) (put b pre s A post) Q = M7 72 ls (.ref (b + 10) :: st) (put b pre s A post) Q := w_get (show decode kb7 69 = .ok (.getfield 37, 3) from by decide +kernel) gf_37 put_o rfl
theorem m7_72 : M7 72 [l0, l1, .val (.int v)] st H Q = M7 73 [l0, l1, .val (.int v)] (.int v :: st) H Q := w_x (show decode kb7 72 = .ok (.iload_n 2, 1) from by decide +kernel) rfl
theorem m7_73 : M7 73 ls st H Q = M7 74 ls (.int 0 :: st) H Q := w_con (show decode kb7 73 = .ok (.iconst 0, 1) from by decide +kernel) rfl (by decide)
theorem m7_74  : M7 74 ls (.int v :: .int j :: .ref (b + 10) :: st) (put b pre s A post) Q = (inB j (A 9) ∧ M7 75 ls st (put b pre s (ou A 9 (setA (A 9) j v)) post) Q) := w_ist (show decode kb7 74 = .ok (.iastore, 1) from by decide +kernel) rfl put_a9 (Nat.zero_le _) rfl put_w9
theorem m7_75 : M7 75 [.val (.ref r), l1, l2] st H Q = M7 76 [.val (.ref r), l1, l2] (.ref r :: st) H Q := w_x (show decode kb7 75 = .ok (.aload_n 0, 1) from by decide +kernel) rfl
theorem m7_76 : M7 76 ls (.ref b :: st) (put b pre s A post) Q = M7 79 ls (.ref (b + 11) :: st) (put b pre s A post) Q := w_get (show decode kb7 76 = .ok (.getfield 40, 3) from by decide +kernel) gf_40 put_o rfl
theorem m7_79 : M7 79 [l0, l1, .val (.int v)] st H Q = M7 80 [l0, l1, .val (.int v)] (.int v :: st) H Q := w_x (show decode kb7 79 = .ok (.iload_n 2, 1) from by decide +kernel) rfl
theorem m7_80 : M7 80 ls st H Q = M7 81 ls (.int 0 :: st) H Q := w_con (show decode kb7 80 = .ok (.iconst 0, 1) from by decide +kernel) rfl (by decide)
theorem m7_81  : M7 81 ls (.int v :: .int j :: .ref (b + 11) :: st) (put b pre s A post) Q = (inB j (A 10) ∧ M7 82 ls st (put b pre s (ou A 10 (setA (A 10) j v)) post) Q) := w_ist (show decode kb7 81 = .ok (.iastore, 1) from by decide +kernel) rfl put_a10 (Nat.zero_le _) rfl put_w10
theorem m7_82 : M7 82 [l0, .val (.int v), l2] st H Q = M7 85 [l0, .val (.int (v + 1)), l2] st H Q := w_iinc (show decode kb7 82 = .ok (.iinc 1 1, 3) from by decide +kernel) rfl (by decide) rfl
theorem m7_85 : M7 85 ls st H Q = M7 46 ls st H Q := w_x (show decode kb7 85 = .ok (.goto (-39), 3) from by decide +kernel) rfl
theorem m7_88 : M7 88 ls st H Q = M7 89 ls (.int 0 :: st) H Q := w_con (show decode kb7 88 = .ok (.iconst 0, 1) from by decide +kernel) rfl (by decide)
theorem m7_89i : M7 89 [l0, .val (.int z), l2] ((.int v) :: st) H Q = M7 90 [l0, .val (.int v), l2] st H Q := w_st (i := 1) (p := isI) (show decode kb7 89 = .ok (.istore_n 1, 1) from by decide +kernel) rfl rfl rfl rfl rfl rfl
theorem m7_90 : M7 90 [l0, .val (.int v), l2] st H Q = M7 91 [l0, .val (.int v), l2] (.int v :: st) H Q := w_x (show decode kb7 90 = .ok (.iload_n 1, 1) from by decide +kernel) rfl
theorem m7_91 : M7 91 [.val (.ref r), l1, l2] st H Q = M7 92 [.val (.ref r), l1, l2] (.ref r :: st) H Q := w_x (show decode kb7 91 = .ok (.aload_n 0, 1) from by decide +kernel) rfl
theorem m7_92 : M7 92 ls (.ref b :: st) (put b pre s A post) Q = M7 95 ls (.int (s 1) :: st) (put b pre s A post) Q := w_get (show decode kb7 92 = .ok (.getfield 69, 3) from by decide +kernel) gf_69 put_o rfl
theorem m7_95 : M7 95 ls (.int y :: .int x :: st) H Q = if x < y then M7 98 ls st H Q else M7 141 ls st H Q := w_icmpN (show decode kb7 95 = .ok (.if_icmp .ge 46, 3) from by decide +kernel) (i_ge x y) rfl
theorem m7_98 : M7 98 [.val (.ref r), l1, l2] st H Q = M7 99 [.val (.ref r), l1, l2] (.ref r :: st) H Q := w_x (show decode kb7 98 = .ok (.aload_n 0, 1) from by decide +kernel) rfl
theorem m7_99 : M7 99 [.val (.ref r), l1, l2] st H Q = M7 100 [.val (.ref r), l1, l2] (.ref r :: st) H Q := w_x (show decode kb7 99 = .ok (.aload_n 0, 1) from by decide +kernel) rfl
theorem m7_100 : M7 100 ls (.ref b :: st) (put b pre s A post) Q = M7 103 ls (.ref (b + 4) :: st) (put b pre s A post) Q := w_get (show decode kb7 100 = .ok (.getfield 19, 3) from by decide +kernel) gf_19 put_o rfl
theorem m7_103 : M7 103 [l0, .val (.int v), l2] st H Q = M7 104 [l0, .val (.int v), l2] (.int v :: st) H Q := w_x (show decode kb7 103 = .ok (.iload_n 1, 1) from by decide +kernel) rfl
theorem m7_104  : M7 104 ls (.int j :: .ref (b + 4) :: st) (put b pre s A post) Q = (inB j (A 3) ∧ M7 105 ls (.int (getA (A 3) j) :: st) (put b pre s A post) Q) := w_ild (show decode kb7 104 = .ok (.iaload, 1) from by decide +kernel) rfl put_a3
theorem m7_105 : M7 105 ls st H Q = M7 107 ls (.int 32 :: st) H Q := w_con (show decode kb7 105 = .ok (.bipush 32, 2) from by decide +kernel) rfl (by decide)
theorem m7_107 : M7 107 ls (.int y :: .int x :: st) H Q = M7 108 ls (.int (x * y) :: st) H Q := w_x (show decode kb7 107 = .ok (.imul, 1) from by decide +kernel) rfl
theorem m7_108 : M7 108 [.val (.ref r), l1, l2] st H Q = M7 109 [.val (.ref r), l1, l2] (.ref r :: st) H Q := w_x (show decode kb7 108 = .ok (.aload_n 0, 1) from by decide +kernel) rfl
theorem m7_109 : M7 109 ls (.ref b :: st) (put b pre s A post) Q = M7 112 ls (.ref (b + 5) :: st) (put b pre s A post) Q := w_get (show decode kb7 109 = .ok (.getfield 22, 3) from by decide +kernel) gf_22 put_o rfl
theorem m7_112 : M7 112 [l0, .val (.int v), l2] st H Q = M7 113 [l0, .val (.int v), l2] (.int v :: st) H Q := w_x (show decode kb7 112 = .ok (.iload_n 1, 1) from by decide +kernel) rfl
theorem m7_113  : M7 113 ls (.int j :: .ref (b + 5) :: st) (put b pre s A post) Q = (inB j (A 4) ∧ M7 114 ls (.int (getA (A 4) j) :: st) (put b pre s A post) Q) := w_ild (show decode kb7 113 = .ok (.iaload, 1) from by decide +kernel) rfl put_a4
theorem m7_114 : M7 114 ls (.int y :: .int x :: st) H Q = M7 115 ls (.int (x + y) :: st) H Q := w_x (show decode kb7 114 = .ok (.iadd, 1) from by decide +kernel) rfl
theorem m7_115 : M7 115 [.val (.ref r), l1, l2] st H Q = M7 116 [.val (.ref r), l1, l2] (.ref r :: st) H Q := w_x (show decode kb7 115 = .ok (.aload_n 0, 1) from by decide +kernel) rfl
theorem m7_116 : M7 116 ls (.ref b :: st) (put b pre s A post) Q = M7 119 ls (.ref (b + 6) :: st) (put b pre s A post) Q := w_get (show decode kb7 116 = .ok (.getfield 25, 3) from by decide +kernel) gf_25 put_o rfl
theorem m7_119 : M7 119 [l0, .val (.int v), l2] st H Q = M7 120 [l0, .val (.int v), l2] (.int v :: st) H Q := w_x (show decode kb7 119 = .ok (.iload_n 1, 1) from by decide +kernel) rfl
theorem m7_120  : M7 120 ls (.int j :: .ref (b + 6) :: st) (put b pre s A post) Q = (inB j (A 5) ∧ M7 121 ls (.int (getA (A 5) j) :: st) (put b pre s A post) Q) := w_ild (show decode kb7 120 = .ok (.iaload, 1) from by decide +kernel) rfl put_a5
theorem m7_121 : M7 121 [.val (.ref r), l1, l2] st H Q = M7 122 [.val (.ref r), l1, l2] (.ref r :: st) H Q := w_x (show decode kb7 121 = .ok (.aload_n 0, 1) from by decide +kernel) rfl
theorem m7_122 : M7 122 ls (.ref b :: st) (put b pre s A post) Q = M7 125 ls (.ref (b + 2) :: st) (put b pre s A post) Q := w_get (show decode kb7 122 = .ok (.getfield 13, 3) from by decide +kernel) gf_13 put_o rfl
theorem m7_125 : M7 125 [.val (.ref r), l1, l2] st H Q = M7 126 [.val (.ref r), l1, l2] (.ref r :: st) H Q := w_x (show decode kb7 125 = .ok (.aload_n 0, 1) from by decide +kernel) rfl
theorem m7_126 : M7 126 ls (.ref b :: st) (put b pre s A post) Q = M7 129 ls (.ref (b + 4) :: st) (put b pre s A post) Q := w_get (show decode kb7 126 = .ok (.getfield 19, 3) from by decide +kernel) gf_19 put_o rfl
theorem m7_129 : M7 129 [l0, .val (.int v), l2] st H Q = M7 130 [l0, .val (.int v), l2] (.int v :: st) H Q := w_x (show decode kb7 129 = .ok (.iload_n 1, 1) from by decide +kernel) rfl
theorem m7_130  : M7 130 ls (.int j :: .ref (b + 4) :: st) (put b pre s A post) Q = (inB j (A 3) ∧ M7 131 ls (.int (getA (A 3) j) :: st) (put b pre s A post) Q) := w_ild (show decode kb7 130 = .ok (.iaload, 1) from by decide +kernel) rfl put_a3
theorem m7_131  : M7 131 ls (.int j :: .ref (b + 2) :: st) (put b pre s A post) Q = (inB j (A 1) ∧ M7 132 ls (.int (getA (A 1) j) :: st) (put b pre s A post) Q) := w_ild (show decode kb7 131 = .ok (.iaload, 1) from by decide +kernel) rfl put_a1
theorem cr7_124 : vR tables_1 dn y7 124 = some (true, y9, prog_1_method_22_code, 4, none, 3, 17) := pR_of (cR_of (by decide +kernel) rc_9 dn_9 dn_7 (sig := ⟨[.int, .int, .int], none⟩) (by decide +kernel) (by decide +kernel) rfl rfl) (by decide +kernel) (by decide +kernel)
theorem m7_132 (a0 : Int32) (a1 : Int32) (a2 : Int32) : M7 132 ls [.int a2, .int a1, .int a0, .ref b] (put b pre s A post) Q = M9 0 [.val (.ref b), .val (.int a0), .val (.int a1), .val (.int a2)] [] (put b pre s A post) (fun v H1 => M7 135 ls (v.toList ++ []) H1 Q) := w_virt (as := [.int a2, .int a1, .int a0]) (rest := []) (a := b) (show decode kb7 132 = .ok (.invokevirtual 124, 3) from by decide +kernel) cr7_124 put_o rfl rfl (Nat.le_of_ble_eq_true rfl) (by show 4 ≤ 4; omega) rfl
theorem m7_135 : M7 135 [l0, .val (.int v), l2] st H Q = M7 138 [l0, .val (.int (v + 1)), l2] st H Q := w_iinc (show decode kb7 135 = .ok (.iinc 1 1, 3) from by decide +kernel) rfl (by decide) rfl
theorem m7_138 : M7 138 ls st H Q = M7 90 ls st H Q := w_x (show decode kb7 138 = .ok (.goto (-48), 3) from by decide +kernel) rfl
theorem m7_141 : M7 141 ls st H Q = M7 142 ls (.int 0 :: st) H Q := w_con (show decode kb7 141 = .ok (.iconst 0, 1) from by decide +kernel) rfl (by decide)
theorem m7_142i : M7 142 [l0, .val (.int z), l2] ((.int v) :: st) H Q = M7 143 [l0, .val (.int v), l2] st H Q := w_st (i := 1) (p := isI) (show decode kb7 142 = .ok (.istore_n 1, 1) from by decide +kernel) rfl rfl rfl rfl rfl rfl
theorem m7_143 : M7 143 [l0, .val (.int v), l2] st H Q = M7 144 [l0, .val (.int v), l2] (.int v :: st) H Q := w_x (show decode kb7 143 = .ok (.iload_n 1, 1) from by decide +kernel) rfl
theorem m7_144 : M7 144 [.val (.ref r), l1, l2] st H Q = M7 145 [.val (.ref r), l1, l2] (.ref r :: st) H Q := w_x (show decode kb7 144 = .ok (.aload_n 0, 1) from by decide +kernel) rfl
theorem m7_145 : M7 145 ls (.ref b :: st) (put b pre s A post) Q = M7 148 ls (.int (s 0) :: st) (put b pre s A post) Q := w_get (show decode kb7 145 = .ok (.getfield 65, 3) from by decide +kernel) gf_65 put_o rfl
theorem m7_148 : M7 148 ls (.int y :: .int x :: st) H Q = if x < y then M7 151 ls st H Q else M7 162 ls st H Q := w_icmpN (show decode kb7 148 = .ok (.if_icmp .ge 14, 3) from by decide +kernel) (i_ge x y) rfl
theorem m7_151 : M7 151 [.val (.ref r), l1, l2] st H Q = M7 152 [.val (.ref r), l1, l2] (.ref r :: st) H Q := w_x (show decode kb7 151 = .ok (.aload_n 0, 1) from by decide +kernel) rfl
theorem m7_152 : M7 152 [l0, .val (.int v), l2] st H Q = M7 153 [l0, .val (.int v), l2] (.int v :: st) H Q := w_x (show decode kb7 152 = .ok (.iload_n 1, 1) from by decide +kernel) rfl
theorem cr7_128 : vR tables_1 dn y7 128 = some (true, y8, prog_1_method_24_code, 6, none, 1, 0) := pR_of (cR_of (by decide +kernel) rc_8 dn_8 dn_7 (sig := ⟨[.int], none⟩) (by decide +kernel) (by decide +kernel) rfl rfl) (by decide +kernel) (by decide +kernel)
theorem m7_153 (a0 : Int32) : M7 153 ls [.int a0, .ref b] (put b pre s A post) Q = M8 0 [.val (.ref b), .val (.int a0), .unset, .unset, .unset, .unset] [] (put b pre s A post) (fun v H1 => M7 156 ls (v.toList ++ []) H1 Q) := w_virt (as := [.int a0]) (rest := []) (a := b) (show decode kb7 153 = .ok (.invokevirtual 128, 3) from by decide +kernel) cr7_128 put_o rfl rfl (Nat.le_of_ble_eq_true rfl) (by show 2 ≤ 6; omega) rfl
theorem m7_156 : M7 156 [l0, .val (.int v), l2] st H Q = M7 159 [l0, .val (.int (v + 1)), l2] st H Q := w_iinc (show decode kb7 156 = .ok (.iinc 1 1, 3) from by decide +kernel) rfl (by decide) rfl
theorem m7_159 : M7 159 ls st H Q = M7 143 ls st H Q := w_x (show decode kb7 159 = .ok (.goto (-16), 3) from by decide +kernel) rfl
theorem m7_162 : M7 162 ls [] H Q = Q none H := w_vret (show decode kb7 162 = .ok (.return_, 1) from by decide +kernel) rfl
theorem m8_0 : M8 0 ls st H Q = M8 1 ls (.int 0 :: st) H Q := w_con (show decode kb8 0 = .ok (.iconst 0, 1) from by decide +kernel) rfl (by decide)
theorem m8_1u : M8 1 [l0, l1, .unset, l3, l4, l5] ((.int v) :: st) H Q = M8 2 [l0, l1, .val (.int v), l3, l4, l5] st H Q := w_st (i := 2) (p := isI) (show decode kb8 1 = .ok (.istore_n 2, 1) from by decide +kernel) rfl rfl rfl rfl rfl rfl
theorem m8_2 : M8 2 [l0, l1, .val (.int v), l3, l4, l5] st H Q = M8 3 [l0, l1, .val (.int v), l3, l4, l5] (.int v :: st) H Q := w_x (show decode kb8 2 = .ok (.iload_n 2, 1) from by decide +kernel) rfl
theorem m8_3 : M8 3 [.val (.ref r), l1, l2, l3, l4, l5] st H Q = M8 4 [.val (.ref r), l1, l2, l3, l4, l5] (.ref r :: st) H Q := w_x (show decode kb8 3 = .ok (.aload_n 0, 1) from by decide +kernel) rfl
theorem m8_4 : M8 4 ls (.ref b :: st) (put b pre s A post) Q = M8 7 ls (.int (s 0) :: st) (put b pre s A post) Q := w_get (show decode kb8 4 = .ok (.getfield 65, 3) from by decide +kernel) gf_65 put_o rfl
theorem m8_7 : M8 7 ls (.int y :: .int x :: st) H Q = if x < y then M8 10 ls st H Q else M8 111 ls st H Q := w_icmpN (show decode kb8 7 = .ok (.if_icmp .ge 104, 3) from by decide +kernel) (i_ge x y) rfl
theorem m8_10 : M8 10 [l0, l1, .val (.int v), l3, l4, l5] st H Q = M8 11 [l0, l1, .val (.int v), l3, l4, l5] (.int v :: st) H Q := w_x (show decode kb8 10 = .ok (.iload_n 2, 1) from by decide +kernel) rfl
theorem m8_11 : M8 11 ls st H Q = M8 13 ls (.int 32 :: st) H Q := w_con (show decode kb8 11 = .ok (.bipush 32, 2) from by decide +kernel) rfl (by decide)
theorem m8_13 : M8 13 ls (.int y :: .int x :: st) H Q = M8 14 ls (.int (x * y) :: st) H Q := w_x (show decode kb8 13 = .ok (.imul, 1) from by decide +kernel) rfl
theorem m8_14 : M8 14 [l0, .val (.int v), l2, l3, l4, l5] st H Q = M8 15 [l0, .val (.int v), l2, l3, l4, l5] (.int v :: st) H Q := w_x (show decode kb8 14 = .ok (.iload_n 1, 1) from by decide +kernel) rfl
theorem m8_15 : M8 15 ls (.int y :: .int x :: st) H Q = M8 16 ls (.int (x + y) :: st) H Q := w_x (show decode kb8 15 = .ok (.iadd, 1) from by decide +kernel) rfl
theorem m8_16u : M8 16 [l0, l1, l2, .unset, l4, l5] ((.int v) :: st) H Q = M8 17 [l0, l1, l2, .val (.int v), l4, l5] st H Q := w_st (i := 3) (p := isI) (show decode kb8 16 = .ok (.istore_n 3, 1) from by decide +kernel) rfl rfl rfl rfl rfl rfl
theorem m8_16i : M8 16 [l0, l1, l2, .val (.int z), l4, l5] ((.int v) :: st) H Q = M8 17 [l0, l1, l2, .val (.int v), l4, l5] st H Q := w_st (i := 3) (p := isI) (show decode kb8 16 = .ok (.istore_n 3, 1) from by decide +kernel) rfl rfl rfl rfl rfl rfl
theorem m8_16r : M8 16 [l0, l1, l2, .val (.ref q), l4, l5] ((.int v) :: st) H Q = M8 17 [l0, l1, l2, .val (.int v), l4, l5] st H Q := w_st (i := 3) (p := isI) (show decode kb8 16 = .ok (.istore_n 3, 1) from by decide +kernel) rfl rfl rfl rfl rfl rfl
theorem m8_17 : M8 17 [.val (.ref r), l1, l2, l3, l4, l5] st H Q = M8 18 [.val (.ref r), l1, l2, l3, l4, l5] (.ref r :: st) H Q := w_x (show decode kb8 17 = .ok (.aload_n 0, 1) from by decide +kernel) rfl
theorem m8_18 : M8 18 ls (.ref b :: st) (put b pre s A post) Q = M8 21 ls (.ref (b + 12) :: st) (put b pre s A post) Q := w_get (show decode kb8 18 = .ok (.getfield 43, 3) from by decide +kernel) gf_43 put_o rfl
theorem m8_21 : M8 21 [l0, l1, l2, .val (.int v), l4, l5] st H Q = M8 22 [l0, l1, l2, .val (.int v), l4, l5] (.int v :: st) H Q := w_x (show decode kb8 21 = .ok (.iload_n 3, 1) from by decide +kernel) rfl
theorem m8_22  : M8 22 ls (.int j :: .ref (b + 12) :: st) (put b pre s A post) Q = (inB j (A 11) ∧ M8 23 ls (.int (getA (A 11) j) :: st) (put b pre s A post) Q) := w_ild (show decode kb8 22 = .ok (.baload, 1) from by decide +kernel) rfl put_a11
theorem m8_23 : M8 23 ls (.int x :: st) H Q = if x = 0 then M8 26 ls st H Q else M8 29 ls st H Q := w_ifN (show decode kb8 23 = .ok (.ifCond .ne 6, 3) from by decide +kernel) (z_ne x) rfl
theorem m8_26 : M8 26 ls st H Q = M8 105 ls st H Q := w_x (show decode kb8 26 = .ok (.goto 79, 3) from by decide +kernel) rfl
theorem m8_29 : M8 29 ls st H Q = M8 30 ls (.int 0 :: st) H Q := w_con (show decode kb8 29 = .ok (.iconst 0, 1) from by decide +kernel) rfl (by decide)
theorem m8_30u : M8 30 [l0, l1, l2, l3, .unset, l5] ((.int v) :: st) H Q = M8 32 [l0, l1, l2, l3, .val (.int v), l5] st H Q := w_st (i := 4) (p := isI) (show decode kb8 30 = .ok (.istore 4, 2) from by decide +kernel) rfl rfl rfl rfl rfl rfl
theorem m8_30i : M8 30 [l0, l1, l2, l3, .val (.int z), l5] ((.int v) :: st) H Q = M8 32 [l0, l1, l2, l3, .val (.int v), l5] st H Q := w_st (i := 4) (p := isI) (show decode kb8 30 = .ok (.istore 4, 2) from by decide +kernel) rfl rfl rfl rfl rfl rfl
theorem m8_30r : M8 30 [l0, l1, l2, l3, .val (.ref q), l5] ((.int v) :: st) H Q = M8 32 [l0, l1, l2, l3, .val (.int v), l5] st H Q := w_st (i := 4) (p := isI) (show decode kb8 30 = .ok (.istore 4, 2) from by decide +kernel) rfl rfl rfl rfl rfl rfl
theorem m8_32 : M8 32 [l0, l1, l2, l3, .val (.int v), l5] st H Q = M8 34 [l0, l1, l2, l3, .val (.int v), l5] (.int v :: st) H Q := w_x (show decode kb8 32 = .ok (.iload 4, 2) from by decide +kernel) rfl
theorem m8_34 : M8 34 [.val (.ref r), l1, l2, l3, l4, l5] st H Q = M8 35 [.val (.ref r), l1, l2, l3, l4, l5] (.ref r :: st) H Q := w_x (show decode kb8 34 = .ok (.aload_n 0, 1) from by decide +kernel) rfl
theorem m8_35 : M8 35 ls (.ref b :: st) (put b pre s A post) Q = M8 38 ls (.int (s 0) :: st) (put b pre s A post) Q := w_get (show decode kb8 35 = .ok (.getfield 65, 3) from by decide +kernel) gf_65 put_o rfl
theorem m8_38 : M8 38 ls (.int y :: .int x :: st) H Q = if x < y then M8 41 ls st H Q else M8 105 ls st H Q := w_icmpN (show decode kb8 38 = .ok (.if_icmp .ge 67, 3) from by decide +kernel) (i_ge x y) rfl
theorem m8_41 : M8 41 [l0, .val (.int v), l2, l3, l4, l5] st H Q = M8 42 [l0, .val (.int v), l2, l3, l4, l5] (.int v :: st) H Q := w_x (show decode kb8 41 = .ok (.iload_n 1, 1) from by decide +kernel) rfl
theorem m8_42 : M8 42 ls st H Q = M8 44 ls (.int 32 :: st) H Q := w_con (show decode kb8 42 = .ok (.bipush 32, 2) from by decide +kernel) rfl (by decide)
theorem m8_44 : M8 44 ls (.int y :: .int x :: st) H Q = M8 45 ls (.int (x * y) :: st) H Q := w_x (show decode kb8 44 = .ok (.imul, 1) from by decide +kernel) rfl
theorem m8_45 : M8 45 [l0, l1, l2, l3, .val (.int v), l5] st H Q = M8 47 [l0, l1, l2, l3, .val (.int v), l5] (.int v :: st) H Q := w_x (show decode kb8 45 = .ok (.iload 4, 2) from by decide +kernel) rfl
theorem m8_47 : M8 47 ls (.int y :: .int x :: st) H Q = M8 48 ls (.int (x + y) :: st) H Q := w_x (show decode kb8 47 = .ok (.iadd, 1) from by decide +kernel) rfl
theorem m8_48u : M8 48 [l0, l1, l2, l3, l4, .unset] ((.int v) :: st) H Q = M8 50 [l0, l1, l2, l3, l4, .val (.int v)] st H Q := w_st (i := 5) (p := isI) (show decode kb8 48 = .ok (.istore 5, 2) from by decide +kernel) rfl rfl rfl rfl rfl rfl
theorem m8_48i : M8 48 [l0, l1, l2, l3, l4, .val (.int z)] ((.int v) :: st) H Q = M8 50 [l0, l1, l2, l3, l4, .val (.int v)] st H Q := w_st (i := 5) (p := isI) (show decode kb8 48 = .ok (.istore 5, 2) from by decide +kernel) rfl rfl rfl rfl rfl rfl
theorem m8_48r : M8 48 [l0, l1, l2, l3, l4, .val (.ref q)] ((.int v) :: st) H Q = M8 50 [l0, l1, l2, l3, l4, .val (.int v)] st H Q := w_st (i := 5) (p := isI) (show decode kb8 48 = .ok (.istore 5, 2) from by decide +kernel) rfl rfl rfl rfl rfl rfl
theorem m8_50 : M8 50 [.val (.ref r), l1, l2, l3, l4, l5] st H Q = M8 51 [.val (.ref r), l1, l2, l3, l4, l5] (.ref r :: st) H Q := w_x (show decode kb8 50 = .ok (.aload_n 0, 1) from by decide +kernel) rfl
theorem m8_51 : M8 51 ls (.ref b :: st) (put b pre s A post) Q = M8 54 ls (.ref (b + 12) :: st) (put b pre s A post) Q := w_get (show decode kb8 51 = .ok (.getfield 43, 3) from by decide +kernel) gf_43 put_o rfl
theorem m8_54 : M8 54 [l0, l1, l2, l3, l4, .val (.int v)] st H Q = M8 56 [l0, l1, l2, l3, l4, .val (.int v)] (.int v :: st) H Q := w_x (show decode kb8 54 = .ok (.iload 5, 2) from by decide +kernel) rfl
theorem m8_56  : M8 56 ls (.int j :: .ref (b + 12) :: st) (put b pre s A post) Q = (inB j (A 11) ∧ M8 57 ls (.int (getA (A 11) j) :: st) (put b pre s A post) Q) := w_ild (show decode kb8 56 = .ok (.baload, 1) from by decide +kernel) rfl put_a11
theorem m8_57 : M8 57 ls (.int x :: st) H Q = if x = 0 then M8 99 ls st H Q else M8 60 ls st H Q := w_if (show decode kb8 57 = .ok (.ifCond .eq 42, 3) from by decide +kernel) (z_eq x) rfl
theorem m8_60 : M8 60 [.val (.ref r), l1, l2, l3, l4, l5] st H Q = M8 61 [.val (.ref r), l1, l2, l3, l4, l5] (.ref r :: st) H Q := w_x (show decode kb8 60 = .ok (.aload_n 0, 1) from by decide +kernel) rfl
theorem m8_61 : M8 61 [l0, l1, .val (.int v), l3, l4, l5] st H Q = M8 62 [l0, l1, .val (.int v), l3, l4, l5] (.int v :: st) H Q := w_x (show decode kb8 61 = .ok (.iload_n 2, 1) from by decide +kernel) rfl
theorem m8_62 : M8 62 ls st H Q = M8 64 ls (.int 32 :: st) H Q := w_con (show decode kb8 62 = .ok (.bipush 32, 2) from by decide +kernel) rfl (by decide)
theorem m8_64 : M8 64 ls (.int y :: .int x :: st) H Q = M8 65 ls (.int (x * y) :: st) H Q := w_x (show decode kb8 64 = .ok (.imul, 1) from by decide +kernel) rfl
theorem m8_65 : M8 65 [l0, l1, l2, l3, .val (.int v), l5] st H Q = M8 67 [l0, l1, l2, l3, .val (.int v), l5] (.int v :: st) H Q := w_x (show decode kb8 65 = .ok (.iload 4, 2) from by decide +kernel) rfl
theorem m8_67 : M8 67 ls (.int y :: .int x :: st) H Q = M8 68 ls (.int (x + y) :: st) H Q := w_x (show decode kb8 67 = .ok (.iadd, 1) from by decide +kernel) rfl
theorem m8_68 : M8 68 [.val (.ref r), l1, l2, l3, l4, l5] st H Q = M8 69 [.val (.ref r), l1, l2, l3, l4, l5] (.ref r :: st) H Q := w_x (show decode kb8 68 = .ok (.aload_n 0, 1) from by decide +kernel) rfl
theorem m8_69 : M8 69 ls (.ref b :: st) (put b pre s A post) Q = M8 72 ls (.ref (b + 10) :: st) (put b pre s A post) Q := w_get (show decode kb8 69 = .ok (.getfield 37, 3) from by decide +kernel) gf_37 put_o rfl
theorem m8_72 : M8 72 [l0, l1, l2, .val (.int v), l4, l5] st H Q = M8 73 [l0, l1, l2, .val (.int v), l4, l5] (.int v :: st) H Q := w_x (show decode kb8 72 = .ok (.iload_n 3, 1) from by decide +kernel) rfl
theorem m8_73  : M8 73 ls (.int j :: .ref (b + 10) :: st) (put b pre s A post) Q = (inB j (A 9) ∧ M8 74 ls (.int (getA (A 9) j) :: st) (put b pre s A post) Q) := w_ild (show decode kb8 73 = .ok (.iaload, 1) from by decide +kernel) rfl put_a9
theorem m8_74 : M8 74 [.val (.ref r), l1, l2, l3, l4, l5] st H Q = M8 75 [.val (.ref r), l1, l2, l3, l4, l5] (.ref r :: st) H Q := w_x (show decode kb8 74 = .ok (.aload_n 0, 1) from by decide +kernel) rfl
theorem m8_75 : M8 75 ls (.ref b :: st) (put b pre s A post) Q = M8 78 ls (.ref (b + 10) :: st) (put b pre s A post) Q := w_get (show decode kb8 75 = .ok (.getfield 37, 3) from by decide +kernel) gf_37 put_o rfl
theorem m8_78 : M8 78 [l0, l1, l2, l3, l4, .val (.int v)] st H Q = M8 80 [l0, l1, l2, l3, l4, .val (.int v)] (.int v :: st) H Q := w_x (show decode kb8 78 = .ok (.iload 5, 2) from by decide +kernel) rfl
theorem m8_80  : M8 80 ls (.int j :: .ref (b + 10) :: st) (put b pre s A post) Q = (inB j (A 9) ∧ M8 81 ls (.int (getA (A 9) j) :: st) (put b pre s A post) Q) := w_ild (show decode kb8 80 = .ok (.iaload, 1) from by decide +kernel) rfl put_a9
theorem m8_81 : M8 81 ls (.int y :: .int x :: st) H Q = M8 82 ls (.int (x + y) :: st) H Q := w_x (show decode kb8 81 = .ok (.iadd, 1) from by decide +kernel) rfl
theorem m8_82 : M8 82 [.val (.ref r), l1, l2, l3, l4, l5] st H Q = M8 83 [.val (.ref r), l1, l2, l3, l4, l5] (.ref r :: st) H Q := w_x (show decode kb8 82 = .ok (.aload_n 0, 1) from by decide +kernel) rfl
theorem m8_83 : M8 83 ls (.ref b :: st) (put b pre s A post) Q = M8 86 ls (.ref (b + 11) :: st) (put b pre s A post) Q := w_get (show decode kb8 83 = .ok (.getfield 40, 3) from by decide +kernel) gf_40 put_o rfl
theorem m8_86 : M8 86 [l0, l1, l2, .val (.int v), l4, l5] st H Q = M8 87 [l0, l1, l2, .val (.int v), l4, l5] (.int v :: st) H Q := w_x (show decode kb8 86 = .ok (.iload_n 3, 1) from by decide +kernel) rfl
theorem m8_87  : M8 87 ls (.int j :: .ref (b + 11) :: st) (put b pre s A post) Q = (inB j (A 10) ∧ M8 88 ls (.int (getA (A 10) j) :: st) (put b pre s A post) Q) := w_ild (show decode kb8 87 = .ok (.iaload, 1) from by decide +kernel) rfl put_a10
theorem m8_88 : M8 88 [.val (.ref r), l1, l2, l3, l4, l5] st H Q = M8 89 [.val (.ref r), l1, l2, l3, l4, l5] (.ref r :: st) H Q := w_x (show decode kb8 88 = .ok (.aload_n 0, 1) from by decide +kernel) rfl
theorem m8_89 : M8 89 ls (.ref b :: st) (put b pre s A post) Q = M8 92 ls (.ref (b + 11) :: st) (put b pre s A post) Q := w_get (show decode kb8 89 = .ok (.getfield 40, 3) from by decide +kernel) gf_40 put_o rfl
theorem m8_92 : M8 92 [l0, l1, l2, l3, l4, .val (.int v)] st H Q = M8 94 [l0, l1, l2, l3, l4, .val (.int v)] (.int v :: st) H Q := w_x (show decode kb8 92 = .ok (.iload 5, 2) from by decide +kernel) rfl
theorem m8_94  : M8 94 ls (.int j :: .ref (b + 11) :: st) (put b pre s A post) Q = (inB j (A 10) ∧ M8 95 ls (.int (getA (A 10) j) :: st) (put b pre s A post) Q) := w_ild (show decode kb8 94 = .ok (.iaload, 1) from by decide +kernel) rfl put_a10
theorem m8_95 : M8 95 ls (.int y :: .int x :: st) H Q = M8 96 ls (.int (x + y) :: st) H Q := w_x (show decode kb8 95 = .ok (.iadd, 1) from by decide +kernel) rfl
theorem cr8_124 : vR tables_1 dn y8 124 = some (true, y9, prog_1_method_22_code, 4, none, 3, 0) := pR_of (cR_of (by decide +kernel) rc_9 dn_9 dn_8 (sig := ⟨[.int, .int, .int], none⟩) (by decide +kernel) (by decide +kernel) rfl rfl) (by decide +kernel) (by decide +kernel)
theorem m8_96 (a0 : Int32) (a1 : Int32) (a2 : Int32) : M8 96 ls [.int a2, .int a1, .int a0, .ref b] (put b pre s A post) Q = M9 0 [.val (.ref b), .val (.int a0), .val (.int a1), .val (.int a2)] [] (put b pre s A post) (fun v H1 => M8 99 ls (v.toList ++ []) H1 Q) := w_virt (as := [.int a2, .int a1, .int a0]) (rest := []) (a := b) (show decode kb8 96 = .ok (.invokevirtual 124, 3) from by decide +kernel) cr8_124 put_o rfl rfl (Nat.le_of_ble_eq_true rfl) (by show 4 ≤ 4; omega) rfl
theorem m8_99 : M8 99 [l0, l1, l2, l3, .val (.int v), l5] st H Q = M8 102 [l0, l1, l2, l3, .val (.int (v + 1)), l5] st H Q := w_iinc (show decode kb8 99 = .ok (.iinc 4 1, 3) from by decide +kernel) rfl (by decide) rfl
theorem m8_102 : M8 102 ls st H Q = M8 32 ls st H Q := w_x (show decode kb8 102 = .ok (.goto (-70), 3) from by decide +kernel) rfl
theorem m8_105 : M8 105 [l0, l1, .val (.int v), l3, l4, l5] st H Q = M8 108 [l0, l1, .val (.int (v + 1)), l3, l4, l5] st H Q := w_iinc (show decode kb8 105 = .ok (.iinc 2 1, 3) from by decide +kernel) rfl (by decide) rfl
theorem m8_108 : M8 108 ls st H Q = M8 2 ls st H Q := w_x (show decode kb8 108 = .ok (.goto (-106), 3) from by decide +kernel) rfl
theorem m8_111 : M8 111 ls [] H Q = Q none H := w_vret (show decode kb8 111 = .ok (.return_, 1) from by decide +kernel) rfl
theorem m9_0 : M9 0 [.val (.ref r), l1, l2, l3] st H Q = M9 1 [.val (.ref r), l1, l2, l3] (.ref r :: st) H Q := w_x (show decode kb9 0 = .ok (.aload_n 0, 1) from by decide +kernel) rfl
theorem m9_1 : M9 1 ls (.ref b :: st) (put b pre s A post) Q = M9 4 ls (.ref (b + 12) :: st) (put b pre s A post) Q := w_get (show decode kb9 1 = .ok (.getfield 43, 3) from by decide +kernel) gf_43 put_o rfl
theorem m9_4 : M9 4 [l0, .val (.int v), l2, l3] st H Q = M9 5 [l0, .val (.int v), l2, l3] (.int v :: st) H Q := w_x (show decode kb9 4 = .ok (.iload_n 1, 1) from by decide +kernel) rfl
theorem m9_5  : M9 5 ls (.int j :: .ref (b + 12) :: st) (put b pre s A post) Q = (inB j (A 11) ∧ M9 6 ls (.int (getA (A 11) j) :: st) (put b pre s A post) Q) := w_ild (show decode kb9 5 = .ok (.baload, 1) from by decide +kernel) rfl put_a11
theorem m9_6 : M9 6 ls (.int x :: st) H Q = if x = 0 then M9 39 ls st H Q else M9 9 ls st H Q := w_if (show decode kb9 6 = .ok (.ifCond .eq 33, 3) from by decide +kernel) (z_eq x) rfl
theorem m9_9 : M9 9 [l0, l1, .val (.int v), l3] st H Q = M9 10 [l0, l1, .val (.int v), l3] (.int v :: st) H Q := w_x (show decode kb9 9 = .ok (.iload_n 2, 1) from by decide +kernel) rfl
theorem m9_10 : M9 10 [.val (.ref r), l1, l2, l3] st H Q = M9 11 [.val (.ref r), l1, l2, l3] (.ref r :: st) H Q := w_x (show decode kb9 10 = .ok (.aload_n 0, 1) from by decide +kernel) rfl
theorem m9_11 : M9 11 ls (.ref b :: st) (put b pre s A post) Q = M9 14 ls (.ref (b + 10) :: st) (put b pre s A post) Q := w_get (show decode kb9 11 = .ok (.getfield 37, 3) from by decide +kernel) gf_37 put_o rfl
theorem m9_14 : M9 14 [l0, .val (.int v), l2, l3] st H Q = M9 15 [l0, .val (.int v), l2, l3] (.int v :: st) H Q := w_x (show decode kb9 14 = .ok (.iload_n 1, 1) from by decide +kernel) rfl
theorem m9_15  : M9 15 ls (.int j :: .ref (b + 10) :: st) (put b pre s A post) Q = (inB j (A 9) ∧ M9 16 ls (.int (getA (A 9) j) :: st) (put b pre s A post) Q) := w_ild (show decode kb9 15 = .ok (.iaload, 1) from by decide +kernel) rfl put_a9
theorem m9_16 : M9 16 ls (.int y :: .int x :: st) H Q = if x < y then M9 39 ls st H Q else M9 19 ls st H Q := w_icmp (show decode kb9 16 = .ok (.if_icmp .lt 23, 3) from by decide +kernel) (i_lt x y) rfl
theorem m9_19 : M9 19 [l0, l1, .val (.int v), l3] st H Q = M9 20 [l0, l1, .val (.int v), l3] (.int v :: st) H Q := w_x (show decode kb9 19 = .ok (.iload_n 2, 1) from by decide +kernel) rfl
theorem m9_20 : M9 20 [.val (.ref r), l1, l2, l3] st H Q = M9 21 [.val (.ref r), l1, l2, l3] (.ref r :: st) H Q := w_x (show decode kb9 20 = .ok (.aload_n 0, 1) from by decide +kernel) rfl
theorem m9_21 : M9 21 ls (.ref b :: st) (put b pre s A post) Q = M9 24 ls (.ref (b + 10) :: st) (put b pre s A post) Q := w_get (show decode kb9 21 = .ok (.getfield 37, 3) from by decide +kernel) gf_37 put_o rfl
theorem m9_24 : M9 24 [l0, .val (.int v), l2, l3] st H Q = M9 25 [l0, .val (.int v), l2, l3] (.int v :: st) H Q := w_x (show decode kb9 24 = .ok (.iload_n 1, 1) from by decide +kernel) rfl
theorem m9_25  : M9 25 ls (.int j :: .ref (b + 10) :: st) (put b pre s A post) Q = (inB j (A 9) ∧ M9 26 ls (.int (getA (A 9) j) :: st) (put b pre s A post) Q) := w_ild (show decode kb9 25 = .ok (.iaload, 1) from by decide +kernel) rfl put_a9
theorem m9_26 : M9 26 ls (.int y :: .int x :: st) H Q = if x = y then M9 29 ls st H Q else M9 60 ls st H Q := w_icmpN (show decode kb9 26 = .ok (.if_icmp .ne 34, 3) from by decide +kernel) (i_ne x y) rfl
theorem m9_29 : M9 29 [l0, l1, l2, .val (.int v)] st H Q = M9 30 [l0, l1, l2, .val (.int v)] (.int v :: st) H Q := w_x (show decode kb9 29 = .ok (.iload_n 3, 1) from by decide +kernel) rfl
theorem m9_30 : M9 30 [.val (.ref r), l1, l2, l3] st H Q = M9 31 [.val (.ref r), l1, l2, l3] (.ref r :: st) H Q := w_x (show decode kb9 30 = .ok (.aload_n 0, 1) from by decide +kernel) rfl
theorem m9_31 : M9 31 ls (.ref b :: st) (put b pre s A post) Q = M9 34 ls (.ref (b + 11) :: st) (put b pre s A post) Q := w_get (show decode kb9 31 = .ok (.getfield 40, 3) from by decide +kernel) gf_40 put_o rfl
theorem m9_34 : M9 34 [l0, .val (.int v), l2, l3] st H Q = M9 35 [l0, .val (.int v), l2, l3] (.int v :: st) H Q := w_x (show decode kb9 34 = .ok (.iload_n 1, 1) from by decide +kernel) rfl
theorem m9_35  : M9 35 ls (.int j :: .ref (b + 11) :: st) (put b pre s A post) Q = (inB j (A 10) ∧ M9 36 ls (.int (getA (A 10) j) :: st) (put b pre s A post) Q) := w_ild (show decode kb9 35 = .ok (.iaload, 1) from by decide +kernel) rfl put_a10
theorem m9_36 : M9 36 ls (.int y :: .int x :: st) H Q = if y < x then M9 39 ls st H Q else M9 60 ls st H Q := w_icmpN (show decode kb9 36 = .ok (.if_icmp .le 24, 3) from by decide +kernel) (i_le x y) rfl
theorem m9_39 : M9 39 [.val (.ref r), l1, l2, l3] st H Q = M9 40 [.val (.ref r), l1, l2, l3] (.ref r :: st) H Q := w_x (show decode kb9 39 = .ok (.aload_n 0, 1) from by decide +kernel) rfl
theorem m9_40 : M9 40 ls (.ref b :: st) (put b pre s A post) Q = M9 43 ls (.ref (b + 12) :: st) (put b pre s A post) Q := w_get (show decode kb9 40 = .ok (.getfield 43, 3) from by decide +kernel) gf_43 put_o rfl
theorem m9_43 : M9 43 [l0, .val (.int v), l2, l3] st H Q = M9 44 [l0, .val (.int v), l2, l3] (.int v :: st) H Q := w_x (show decode kb9 43 = .ok (.iload_n 1, 1) from by decide +kernel) rfl
theorem m9_44 : M9 44 ls st H Q = M9 45 ls (.int 1 :: st) H Q := w_con (show decode kb9 44 = .ok (.iconst 1, 1) from by decide +kernel) rfl (by decide)
theorem m9_45  : M9 45 ls (.int v :: .int j :: .ref (b + 12) :: st) (put b pre s A post) Q = (inB j (A 11) ∧ M9 46 ls st (put b pre s (ou A 11 (setA (A 11) j (nar .boolean v))) post) Q) := w_ist (show decode kb9 45 = .ok (.bastore, 1) from by decide +kernel) rfl put_a11 (Nat.zero_le _) rfl put_w11
theorem m9_46 : M9 46 [.val (.ref r), l1, l2, l3] st H Q = M9 47 [.val (.ref r), l1, l2, l3] (.ref r :: st) H Q := w_x (show decode kb9 46 = .ok (.aload_n 0, 1) from by decide +kernel) rfl
theorem m9_47 : M9 47 ls (.ref b :: st) (put b pre s A post) Q = M9 50 ls (.ref (b + 10) :: st) (put b pre s A post) Q := w_get (show decode kb9 47 = .ok (.getfield 37, 3) from by decide +kernel) gf_37 put_o rfl
theorem m9_50 : M9 50 [l0, .val (.int v), l2, l3] st H Q = M9 51 [l0, .val (.int v), l2, l3] (.int v :: st) H Q := w_x (show decode kb9 50 = .ok (.iload_n 1, 1) from by decide +kernel) rfl
theorem m9_51 : M9 51 [l0, l1, .val (.int v), l3] st H Q = M9 52 [l0, l1, .val (.int v), l3] (.int v :: st) H Q := w_x (show decode kb9 51 = .ok (.iload_n 2, 1) from by decide +kernel) rfl
theorem m9_52  : M9 52 ls (.int v :: .int j :: .ref (b + 10) :: st) (put b pre s A post) Q = (inB j (A 9) ∧ M9 53 ls st (put b pre s (ou A 9 (setA (A 9) j v)) post) Q) := w_ist (show decode kb9 52 = .ok (.iastore, 1) from by decide +kernel) rfl put_a9 (Nat.zero_le _) rfl put_w9
theorem m9_53 : M9 53 [.val (.ref r), l1, l2, l3] st H Q = M9 54 [.val (.ref r), l1, l2, l3] (.ref r :: st) H Q := w_x (show decode kb9 53 = .ok (.aload_n 0, 1) from by decide +kernel) rfl
theorem m9_54 : M9 54 ls (.ref b :: st) (put b pre s A post) Q = M9 57 ls (.ref (b + 11) :: st) (put b pre s A post) Q := w_get (show decode kb9 54 = .ok (.getfield 40, 3) from by decide +kernel) gf_40 put_o rfl
theorem m9_57 : M9 57 [l0, .val (.int v), l2, l3] st H Q = M9 58 [l0, .val (.int v), l2, l3] (.int v :: st) H Q := w_x (show decode kb9 57 = .ok (.iload_n 1, 1) from by decide +kernel) rfl
theorem m9_58 : M9 58 [l0, l1, l2, .val (.int v)] st H Q = M9 59 [l0, l1, l2, .val (.int v)] (.int v :: st) H Q := w_x (show decode kb9 58 = .ok (.iload_n 3, 1) from by decide +kernel) rfl
theorem m9_59  : M9 59 ls (.int v :: .int j :: .ref (b + 11) :: st) (put b pre s A post) Q = (inB j (A 10) ∧ M9 60 ls st (put b pre s (ou A 10 (setA (A 10) j v)) post) Q) := w_ist (show decode kb9 59 = .ok (.iastore, 1) from by decide +kernel) rfl put_a10 (Nat.zero_le _) rfl put_w10
theorem m9_60 : M9 60 ls [] H Q = Q none H := w_vret (show decode kb9 60 = .ok (.return_, 1) from by decide +kernel) rfl
theorem m10_0 : M10 0 ls st H Q = M10 1 ls (.int 0 :: st) H Q := w_con (show decode kb10 0 = .ok (.iconst 0, 1) from by decide +kernel) rfl (by decide)
theorem m10_1u : M10 1 [l0, .unset, l2, l3, l4] ((.int v) :: st) H Q = M10 2 [l0, .val (.int v), l2, l3, l4] st H Q := w_st (i := 1) (p := isI) (show decode kb10 1 = .ok (.istore_n 1, 1) from by decide +kernel) rfl rfl rfl rfl rfl rfl
theorem m10_2 : M10 2 [.val (.ref r), l1, l2, l3, l4] st H Q = M10 3 [.val (.ref r), l1, l2, l3, l4] (.ref r :: st) H Q := w_x (show decode kb10 2 = .ok (.aload_n 0, 1) from by decide +kernel) rfl
theorem m10_3 : M10 3 ls (.ref b :: st) (put b pre s A post) Q = M10 6 ls (.int (s 6) :: st) (put b pre s A post) Q := w_get (show decode kb10 3 = .ok (.getfield 93, 3) from by decide +kernel) gf_93 put_o rfl
theorem m10_6u : M10 6 [l0, l1, .unset, l3, l4] ((.int v) :: st) H Q = M10 7 [l0, l1, .val (.int v), l3, l4] st H Q := w_st (i := 2) (p := isI) (show decode kb10 6 = .ok (.istore_n 2, 1) from by decide +kernel) rfl rfl rfl rfl rfl rfl
theorem m10_7 : M10 7 ls st H Q = M10 8 ls (.int 0 :: st) H Q := w_con (show decode kb10 7 = .ok (.iconst 0, 1) from by decide +kernel) rfl (by decide)
theorem m10_8u : M10 8 [l0, l1, l2, .unset, l4] ((.int v) :: st) H Q = M10 9 [l0, l1, l2, .val (.int v), l4] st H Q := w_st (i := 3) (p := isI) (show decode kb10 8 = .ok (.istore_n 3, 1) from by decide +kernel) rfl rfl rfl rfl rfl rfl
theorem m10_9 : M10 9 [l0, l1, l2, .val (.int v), l4] st H Q = M10 10 [l0, l1, l2, .val (.int v), l4] (.int v :: st) H Q := w_x (show decode kb10 9 = .ok (.iload_n 3, 1) from by decide +kernel) rfl
theorem m10_10 : M10 10 ls st H Q = M10 12 ls (.int 40 :: st) H Q := w_con (show decode kb10 10 = .ok (.bipush 40, 2) from by decide +kernel) rfl (by decide)
theorem m10_12 : M10 12 ls (.int y :: .int x :: st) H Q = if x < y then M10 15 ls st H Q else M10 55 ls st H Q := w_icmpN (show decode kb10 12 = .ok (.if_icmp .ge 43, 3) from by decide +kernel) (i_ge x y) rfl
theorem m10_15 : M10 15 [l0, .val (.int v), l2, l3, l4] st H Q = M10 16 [l0, .val (.int v), l2, l3, l4] (.int v :: st) H Q := w_x (show decode kb10 15 = .ok (.iload_n 1, 1) from by decide +kernel) rfl
theorem m10_16 : M10 16 [l0, l1, .val (.int v), l3, l4] st H Q = M10 17 [l0, l1, .val (.int v), l3, l4] (.int v :: st) H Q := w_x (show decode kb10 16 = .ok (.iload_n 2, 1) from by decide +kernel) rfl
theorem m10_17 : M10 17 ls (.int y :: .int x :: st) H Q = if x < y then M10 20 ls st H Q else M10 55 ls st H Q := w_icmpN (show decode kb10 17 = .ok (.if_icmp .ge 38, 3) from by decide +kernel) (i_ge x y) rfl
theorem m10_20 : M10 20 [l0, .val (.int v), l2, l3, l4] st H Q = M10 21 [l0, .val (.int v), l2, l3, l4] (.int v :: st) H Q := w_x (show decode kb10 20 = .ok (.iload_n 1, 1) from by decide +kernel) rfl
theorem m10_21 : M10 21 [l0, l1, .val (.int v), l3, l4] st H Q = M10 22 [l0, l1, .val (.int v), l3, l4] (.int v :: st) H Q := w_x (show decode kb10 21 = .ok (.iload_n 2, 1) from by decide +kernel) rfl
theorem m10_22 : M10 22 [l0, .val (.int v), l2, l3, l4] st H Q = M10 23 [l0, .val (.int v), l2, l3, l4] (.int v :: st) H Q := w_x (show decode kb10 22 = .ok (.iload_n 1, 1) from by decide +kernel) rfl
theorem m10_23 : M10 23 ls (.int y :: .int x :: st) H Q = M10 24 ls (.int (x - y) :: st) H Q := w_x (show decode kb10 23 = .ok (.isub, 1) from by decide +kernel) rfl
theorem m10_24 : M10 24 ls st H Q = M10 25 ls (.int 2 :: st) H Q := w_con (show decode kb10 24 = .ok (.iconst 2, 1) from by decide +kernel) rfl (by decide)
theorem m10_25 : M10 25 ls (.int y :: .int x :: st) H Q = (y ≠ 0 ∧ M10 26 ls (.int (x / y) :: st) H Q) := w_div (f := fun x y => x / y) (show decode kb10 25 = .ok (.idiv, 1) from by decide +kernel) (fun _ => rfl) rfl rfl
theorem m10_26 : M10 26 ls (.int y :: .int x :: st) H Q = M10 27 ls (.int (x + y) :: st) H Q := w_x (show decode kb10 26 = .ok (.iadd, 1) from by decide +kernel) rfl
theorem m10_27u : M10 27 [l0, l1, l2, l3, .unset] ((.int v) :: st) H Q = M10 29 [l0, l1, l2, l3, .val (.int v)] st H Q := w_st (i := 4) (p := isI) (show decode kb10 27 = .ok (.istore 4, 2) from by decide +kernel) rfl rfl rfl rfl rfl rfl
theorem m10_27i : M10 27 [l0, l1, l2, l3, .val (.int z)] ((.int v) :: st) H Q = M10 29 [l0, l1, l2, l3, .val (.int v)] st H Q := w_st (i := 4) (p := isI) (show decode kb10 27 = .ok (.istore 4, 2) from by decide +kernel) rfl rfl rfl rfl rfl rfl
theorem m10_27r : M10 27 [l0, l1, l2, l3, .val (.ref q)] ((.int v) :: st) H Q = M10 29 [l0, l1, l2, l3, .val (.int v)] st H Q := w_st (i := 4) (p := isI) (show decode kb10 27 = .ok (.istore 4, 2) from by decide +kernel) rfl rfl rfl rfl rfl rfl
theorem m10_29 : M10 29 [.val (.ref r), l1, l2, l3, l4] st H Q = M10 30 [.val (.ref r), l1, l2, l3, l4] (.ref r :: st) H Q := w_x (show decode kb10 29 = .ok (.aload_n 0, 1) from by decide +kernel) rfl
theorem m10_30 : M10 30 [l0, l1, l2, l3, .val (.int v)] st H Q = M10 32 [l0, l1, l2, l3, .val (.int v)] (.int v :: st) H Q := w_x (show decode kb10 30 = .ok (.iload 4, 2) from by decide +kernel) rfl
theorem cr10_103 : vR tables_1 dn y10 103 = some (true, y11, prog_1_method_26_code, 3, (some .boolean), 1, 0) := pR_of (cR_of (by decide +kernel) rc_11 dn_11 dn_10 (sig := ⟨[.int], some .boolean⟩) (by decide +kernel) (by decide +kernel) rfl rfl) (by decide +kernel) (by decide +kernel)
theorem m10_32 (a0 : Int32) : M10 32 ls [.int a0, .ref b] (put b pre s A post) Q = M11 0 [.val (.ref b), .val (.int a0), .unset] [] (put b pre s A post) (fun v H1 => M10 35 ls (v.toList ++ []) H1 Q) := w_virt (as := [.int a0]) (rest := []) (a := b) (show decode kb10 32 = .ok (.invokevirtual 103, 3) from by decide +kernel) cr10_103 put_o rfl rfl (Nat.le_of_ble_eq_true rfl) (by show 2 ≤ 3; omega) rfl
theorem m10_35 : M10 35 ls (.int x :: st) H Q = if x = 0 then M10 44 ls st H Q else M10 38 ls st H Q := w_if (show decode kb10 35 = .ok (.ifCond .eq 9, 3) from by decide +kernel) (z_eq x) rfl
theorem m10_38 : M10 38 [l0, l1, l2, l3, .val (.int v)] st H Q = M10 40 [l0, l1, l2, l3, .val (.int v)] (.int v :: st) H Q := w_x (show decode kb10 38 = .ok (.iload 4, 2) from by decide +kernel) rfl
theorem m10_40i : M10 40 [l0, l1, .val (.int z), l3, l4] ((.int v) :: st) H Q = M10 41 [l0, l1, .val (.int v), l3, l4] st H Q := w_st (i := 2) (p := isI) (show decode kb10 40 = .ok (.istore_n 2, 1) from by decide +kernel) rfl rfl rfl rfl rfl rfl
theorem m10_41 : M10 41 ls st H Q = M10 49 ls st H Q := w_x (show decode kb10 41 = .ok (.goto 8, 3) from by decide +kernel) rfl
theorem m10_44 : M10 44 [l0, l1, l2, l3, .val (.int v)] st H Q = M10 46 [l0, l1, l2, l3, .val (.int v)] (.int v :: st) H Q := w_x (show decode kb10 44 = .ok (.iload 4, 2) from by decide +kernel) rfl
theorem m10_46 : M10 46 ls st H Q = M10 47 ls (.int 1 :: st) H Q := w_con (show decode kb10 46 = .ok (.iconst 1, 1) from by decide +kernel) rfl (by decide)
theorem m10_47 : M10 47 ls (.int y :: .int x :: st) H Q = M10 48 ls (.int (x + y) :: st) H Q := w_x (show decode kb10 47 = .ok (.iadd, 1) from by decide +kernel) rfl
theorem m10_48i : M10 48 [l0, .val (.int z), l2, l3, l4] ((.int v) :: st) H Q = M10 49 [l0, .val (.int v), l2, l3, l4] st H Q := w_st (i := 1) (p := isI) (show decode kb10 48 = .ok (.istore_n 1, 1) from by decide +kernel) rfl rfl rfl rfl rfl rfl
theorem m10_49 : M10 49 [l0, l1, l2, .val (.int v), l4] st H Q = M10 52 [l0, l1, l2, .val (.int (v + 1)), l4] st H Q := w_iinc (show decode kb10 49 = .ok (.iinc 3 1, 3) from by decide +kernel) rfl (by decide) rfl
theorem m10_52 : M10 52 ls st H Q = M10 9 ls st H Q := w_x (show decode kb10 52 = .ok (.goto (-43), 3) from by decide +kernel) rfl
theorem m10_55 : M10 55 [l0, .val (.int v), l2, l3, l4] st H Q = M10 56 [l0, .val (.int v), l2, l3, l4] (.int v :: st) H Q := w_x (show decode kb10 55 = .ok (.iload_n 1, 1) from by decide +kernel) rfl
theorem m10_56 : M10 56 ls (.int z :: st) H Q = Q (some (.int z)) H := w_iret (show decode kb10 56 = .ok (.ireturn, 1) from by decide +kernel) rfl
theorem m11_0 : M11 0 ls st H Q = M11 1 ls (.int 0 :: st) H Q := w_con (show decode kb11 0 = .ok (.iconst 0, 1) from by decide +kernel) rfl (by decide)
theorem m11_1u : M11 1 [l0, l1, .unset] ((.int v) :: st) H Q = M11 2 [l0, l1, .val (.int v)] st H Q := w_st (i := 2) (p := isI) (show decode kb11 1 = .ok (.istore_n 2, 1) from by decide +kernel) rfl rfl rfl rfl rfl rfl
theorem m11_2 : M11 2 [l0, l1, .val (.int v)] st H Q = M11 3 [l0, l1, .val (.int v)] (.int v :: st) H Q := w_x (show decode kb11 2 = .ok (.iload_n 2, 1) from by decide +kernel) rfl
theorem m11_3 : M11 3 [.val (.ref r), l1, l2] st H Q = M11 4 [.val (.ref r), l1, l2] (.ref r :: st) H Q := w_x (show decode kb11 3 = .ok (.aload_n 0, 1) from by decide +kernel) rfl
theorem m11_4 : M11 4 ls (.ref b :: st) (put b pre s A post) Q = M11 7 ls (.int (s 0) :: st) (put b pre s A post) Q := w_get (show decode kb11 4 = .ok (.getfield 65, 3) from by decide +kernel) gf_65 put_o rfl
theorem m11_7 : M11 7 ls (.int y :: .int x :: st) H Q = if x < y then M11 10 ls st H Q else M11 23 ls st H Q := w_icmpN (show decode kb11 7 = .ok (.if_icmp .ge 16, 3) from by decide +kernel) (i_ge x y) rfl
theorem m11_10 : M11 10 [.val (.ref r), l1, l2] st H Q = M11 11 [.val (.ref r), l1, l2] (.ref r :: st) H Q := w_x (show decode kb11 10 = .ok (.aload_n 0, 1) from by decide +kernel) rfl
theorem m11_11 : M11 11 ls (.ref b :: st) (put b pre s A post) Q = M11 14 ls (.ref (b + 13) :: st) (put b pre s A post) Q := w_get (show decode kb11 11 = .ok (.getfield 47, 3) from by decide +kernel) gf_47 put_o rfl
theorem m11_14 : M11 14 [l0, l1, .val (.int v)] st H Q = M11 15 [l0, l1, .val (.int v)] (.int v :: st) H Q := w_x (show decode kb11 14 = .ok (.iload_n 2, 1) from by decide +kernel) rfl
theorem m11_15 : M11 15 ls st H Q = M11 16 ls (.int 0 :: st) H Q := w_con (show decode kb11 15 = .ok (.iconst 0, 1) from by decide +kernel) rfl (by decide)
theorem m11_16  : M11 16 ls (.int v :: .int j :: .ref (b + 13) :: st) (put b pre s A post) Q = (inB j (A 12) ∧ M11 17 ls st (put b pre s (ou A 12 (setA (A 12) j v)) post) Q) := w_ist (show decode kb11 16 = .ok (.iastore, 1) from by decide +kernel) rfl put_a12 (Nat.zero_le _) rfl put_w12
theorem m11_17 : M11 17 [l0, l1, .val (.int v)] st H Q = M11 20 [l0, l1, .val (.int (v + 1))] st H Q := w_iinc (show decode kb11 17 = .ok (.iinc 2 1, 3) from by decide +kernel) rfl (by decide) rfl
theorem m11_20 : M11 20 ls st H Q = M11 2 ls st H Q := w_x (show decode kb11 20 = .ok (.goto (-18), 3) from by decide +kernel) rfl
theorem m11_23 : M11 23 ls st H Q = M11 24 ls (.int 0 :: st) H Q := w_con (show decode kb11 23 = .ok (.iconst 0, 1) from by decide +kernel) rfl (by decide)
theorem m11_24i : M11 24 [l0, l1, .val (.int z)] ((.int v) :: st) H Q = M11 25 [l0, l1, .val (.int v)] st H Q := w_st (i := 2) (p := isI) (show decode kb11 24 = .ok (.istore_n 2, 1) from by decide +kernel) rfl rfl rfl rfl rfl rfl
theorem m11_25 : M11 25 [l0, l1, .val (.int v)] st H Q = M11 26 [l0, l1, .val (.int v)] (.int v :: st) H Q := w_x (show decode kb11 25 = .ok (.iload_n 2, 1) from by decide +kernel) rfl
theorem m11_26 : M11 26 [.val (.ref r), l1, l2] st H Q = M11 27 [.val (.ref r), l1, l2] (.ref r :: st) H Q := w_x (show decode kb11 26 = .ok (.aload_n 0, 1) from by decide +kernel) rfl
theorem m11_27 : M11 27 ls (.ref b :: st) (put b pre s A post) Q = M11 30 ls (.int (s 0) :: st) (put b pre s A post) Q := w_get (show decode kb11 27 = .ok (.getfield 65, 3) from by decide +kernel) gf_65 put_o rfl
theorem m11_30 : M11 30 ls st H Q = M11 31 ls (.int 1 :: st) H Q := w_con (show decode kb11 30 = .ok (.iconst 1, 1) from by decide +kernel) rfl (by decide)
theorem m11_31 : M11 31 ls (.int y :: .int x :: st) H Q = M11 32 ls (.int (x + y) :: st) H Q := w_x (show decode kb11 31 = .ok (.iadd, 1) from by decide +kernel) rfl
theorem m11_32 : M11 32 ls (.int y :: .int x :: st) H Q = if y < x then M11 51 ls st H Q else M11 35 ls st H Q := w_icmp (show decode kb11 32 = .ok (.if_icmp .gt 19, 3) from by decide +kernel) (i_gt x y) rfl
theorem m11_35 : M11 35 [.val (.ref r), l1, l2] st H Q = M11 36 [.val (.ref r), l1, l2] (.ref r :: st) H Q := w_x (show decode kb11 35 = .ok (.aload_n 0, 1) from by decide +kernel) rfl
theorem m11_36 : M11 36 [l0, .val (.int v), l2] st H Q = M11 37 [l0, .val (.int v), l2] (.int v :: st) H Q := w_x (show decode kb11 36 = .ok (.iload_n 1, 1) from by decide +kernel) rfl
theorem cr11_132 : vR tables_1 dn y11 132 = some (true, y12, prog_1_method_27_code, 7, (some .boolean), 1, 0) := pR_of (cR_of (by decide +kernel) rc_12 dn_12 dn_11 (sig := ⟨[.int], some .boolean⟩) (by decide +kernel) (by decide +kernel) rfl rfl) (by decide +kernel) (by decide +kernel)
theorem m11_37 (a0 : Int32) : M11 37 ls [.int a0, .ref b] (put b pre s A post) Q = M12 0 [.val (.ref b), .val (.int a0), .unset, .unset, .unset, .unset, .unset] [] (put b pre s A post) (fun v H1 => M11 40 ls (v.toList ++ []) H1 Q) := w_virt (as := [.int a0]) (rest := []) (a := b) (show decode kb11 37 = .ok (.invokevirtual 132, 3) from by decide +kernel) cr11_132 put_o rfl rfl (Nat.le_of_ble_eq_true rfl) (by show 2 ≤ 7; omega) rfl
theorem m11_40 : M11 40 ls (.int x :: st) H Q = if x = 0 then M11 43 ls st H Q else M11 45 ls st H Q := w_ifN (show decode kb11 40 = .ok (.ifCond .ne 5, 3) from by decide +kernel) (z_ne x) rfl
theorem m11_43 : M11 43 ls st H Q = M11 44 ls (.int 1 :: st) H Q := w_con (show decode kb11 43 = .ok (.iconst 1, 1) from by decide +kernel) rfl (by decide)
theorem m11_44 : M11 44 ls (.int z :: st) H Q = Q (some (.int (nar .boolean z))) H := w_iretN (show decode kb11 44 = .ok (.ireturn, 1) from by decide +kernel) rfl (by simp)
theorem m11_45 : M11 45 [l0, l1, .val (.int v)] st H Q = M11 48 [l0, l1, .val (.int (v + 1))] st H Q := w_iinc (show decode kb11 45 = .ok (.iinc 2 1, 3) from by decide +kernel) rfl (by decide) rfl
theorem m11_48 : M11 48 ls st H Q = M11 25 ls st H Q := w_x (show decode kb11 48 = .ok (.goto (-23), 3) from by decide +kernel) rfl
theorem m11_51 : M11 51 ls st H Q = M11 52 ls (.int 0 :: st) H Q := w_con (show decode kb11 51 = .ok (.iconst 0, 1) from by decide +kernel) rfl (by decide)
theorem m11_52 : M11 52 ls (.int z :: st) H Q = Q (some (.int (nar .boolean z))) H := w_iretN (show decode kb11 52 = .ok (.ireturn, 1) from by decide +kernel) rfl (by simp)
theorem m12_0 : M12 0 ls st H Q = M12 1 ls (.int 0 :: st) H Q := w_con (show decode kb12 0 = .ok (.iconst 0, 1) from by decide +kernel) rfl (by decide)
theorem m12_1u : M12 1 [l0, l1, .unset, l3, l4, l5, l6] ((.int v) :: st) H Q = M12 2 [l0, l1, .val (.int v), l3, l4, l5, l6] st H Q := w_st (i := 2) (p := isI) (show decode kb12 1 = .ok (.istore_n 2, 1) from by decide +kernel) rfl rfl rfl rfl rfl rfl
theorem m12_2 : M12 2 ls st H Q = M12 3 ls (.int 0 :: st) H Q := w_con (show decode kb12 2 = .ok (.iconst 0, 1) from by decide +kernel) rfl (by decide)
theorem m12_3u : M12 3 [l0, l1, l2, .unset, l4, l5, l6] ((.int v) :: st) H Q = M12 4 [l0, l1, l2, .val (.int v), l4, l5, l6] st H Q := w_st (i := 3) (p := isI) (show decode kb12 3 = .ok (.istore_n 3, 1) from by decide +kernel) rfl rfl rfl rfl rfl rfl
theorem m12_4 : M12 4 [l0, l1, l2, .val (.int v), l4, l5, l6] st H Q = M12 5 [l0, l1, l2, .val (.int v), l4, l5, l6] (.int v :: st) H Q := w_x (show decode kb12 4 = .ok (.iload_n 3, 1) from by decide +kernel) rfl
theorem m12_5 : M12 5 [.val (.ref r), l1, l2, l3, l4, l5, l6] st H Q = M12 6 [.val (.ref r), l1, l2, l3, l4, l5, l6] (.ref r :: st) H Q := w_x (show decode kb12 5 = .ok (.aload_n 0, 1) from by decide +kernel) rfl
theorem m12_6 : M12 6 ls (.ref b :: st) (put b pre s A post) Q = M12 9 ls (.int (s 1) :: st) (put b pre s A post) Q := w_get (show decode kb12 6 = .ok (.getfield 69, 3) from by decide +kernel) gf_69 put_o rfl
theorem m12_9 : M12 9 ls (.int y :: .int x :: st) H Q = if x < y then M12 12 ls st H Q else M12 69 ls st H Q := w_icmpN (show decode kb12 9 = .ok (.if_icmp .ge 60, 3) from by decide +kernel) (i_ge x y) rfl
theorem m12_12 : M12 12 [.val (.ref r), l1, l2, l3, l4, l5, l6] st H Q = M12 13 [.val (.ref r), l1, l2, l3, l4, l5, l6] (.ref r :: st) H Q := w_x (show decode kb12 12 = .ok (.aload_n 0, 1) from by decide +kernel) rfl
theorem m12_13 : M12 13 ls (.ref b :: st) (put b pre s A post) Q = M12 16 ls (.ref (b + 4) :: st) (put b pre s A post) Q := w_get (show decode kb12 13 = .ok (.getfield 19, 3) from by decide +kernel) gf_19 put_o rfl
theorem m12_16 : M12 16 [l0, l1, l2, .val (.int v), l4, l5, l6] st H Q = M12 17 [l0, l1, l2, .val (.int v), l4, l5, l6] (.int v :: st) H Q := w_x (show decode kb12 16 = .ok (.iload_n 3, 1) from by decide +kernel) rfl
theorem m12_17  : M12 17 ls (.int j :: .ref (b + 4) :: st) (put b pre s A post) Q = (inB j (A 3) ∧ M12 18 ls (.int (getA (A 3) j) :: st) (put b pre s A post) Q) := w_ild (show decode kb12 17 = .ok (.iaload, 1) from by decide +kernel) rfl put_a3
theorem m12_18u : M12 18 [l0, l1, l2, l3, .unset, l5, l6] ((.int v) :: st) H Q = M12 20 [l0, l1, l2, l3, .val (.int v), l5, l6] st H Q := w_st (i := 4) (p := isI) (show decode kb12 18 = .ok (.istore 4, 2) from by decide +kernel) rfl rfl rfl rfl rfl rfl
theorem m12_18i : M12 18 [l0, l1, l2, l3, .val (.int z), l5, l6] ((.int v) :: st) H Q = M12 20 [l0, l1, l2, l3, .val (.int v), l5, l6] st H Q := w_st (i := 4) (p := isI) (show decode kb12 18 = .ok (.istore 4, 2) from by decide +kernel) rfl rfl rfl rfl rfl rfl
theorem m12_18r : M12 18 [l0, l1, l2, l3, .val (.ref q), l5, l6] ((.int v) :: st) H Q = M12 20 [l0, l1, l2, l3, .val (.int v), l5, l6] st H Q := w_st (i := 4) (p := isI) (show decode kb12 18 = .ok (.istore 4, 2) from by decide +kernel) rfl rfl rfl rfl rfl rfl
theorem m12_20 : M12 20 [.val (.ref r), l1, l2, l3, l4, l5, l6] st H Q = M12 21 [.val (.ref r), l1, l2, l3, l4, l5, l6] (.ref r :: st) H Q := w_x (show decode kb12 20 = .ok (.aload_n 0, 1) from by decide +kernel) rfl
theorem m12_21 : M12 21 ls (.ref b :: st) (put b pre s A post) Q = M12 24 ls (.ref (b + 13) :: st) (put b pre s A post) Q := w_get (show decode kb12 21 = .ok (.getfield 47, 3) from by decide +kernel) gf_47 put_o rfl
theorem m12_24 : M12 24 [.val (.ref r), l1, l2, l3, l4, l5, l6] st H Q = M12 25 [.val (.ref r), l1, l2, l3, l4, l5, l6] (.ref r :: st) H Q := w_x (show decode kb12 24 = .ok (.aload_n 0, 1) from by decide +kernel) rfl
theorem m12_25 : M12 25 ls (.ref b :: st) (put b pre s A post) Q = M12 28 ls (.ref (b + 5) :: st) (put b pre s A post) Q := w_get (show decode kb12 25 = .ok (.getfield 22, 3) from by decide +kernel) gf_22 put_o rfl
theorem m12_28 : M12 28 [l0, l1, l2, .val (.int v), l4, l5, l6] st H Q = M12 29 [l0, l1, l2, .val (.int v), l4, l5, l6] (.int v :: st) H Q := w_x (show decode kb12 28 = .ok (.iload_n 3, 1) from by decide +kernel) rfl
theorem m12_29  : M12 29 ls (.int j :: .ref (b + 5) :: st) (put b pre s A post) Q = (inB j (A 4) ∧ M12 30 ls (.int (getA (A 4) j) :: st) (put b pre s A post) Q) := w_ild (show decode kb12 29 = .ok (.iaload, 1) from by decide +kernel) rfl put_a4
theorem m12_30  : M12 30 ls (.int j :: .ref (b + 13) :: st) (put b pre s A post) Q = (inB j (A 12) ∧ M12 31 ls (.int (getA (A 12) j) :: st) (put b pre s A post) Q) := w_ild (show decode kb12 30 = .ok (.iaload, 1) from by decide +kernel) rfl put_a12
theorem m12_31 : M12 31 [.val (.ref r), l1, l2, l3, l4, l5, l6] st H Q = M12 32 [.val (.ref r), l1, l2, l3, l4, l5, l6] (.ref r :: st) H Q := w_x (show decode kb12 31 = .ok (.aload_n 0, 1) from by decide +kernel) rfl
theorem m12_32 : M12 32 ls (.ref b :: st) (put b pre s A post) Q = M12 35 ls (.ref (b + 6) :: st) (put b pre s A post) Q := w_get (show decode kb12 32 = .ok (.getfield 25, 3) from by decide +kernel) gf_25 put_o rfl
theorem m12_35 : M12 35 [l0, l1, l2, .val (.int v), l4, l5, l6] st H Q = M12 36 [l0, l1, l2, .val (.int v), l4, l5, l6] (.int v :: st) H Q := w_x (show decode kb12 35 = .ok (.iload_n 3, 1) from by decide +kernel) rfl
theorem m12_36  : M12 36 ls (.int j :: .ref (b + 6) :: st) (put b pre s A post) Q = (inB j (A 5) ∧ M12 37 ls (.int (getA (A 5) j) :: st) (put b pre s A post) Q) := w_ild (show decode kb12 36 = .ok (.iaload, 1) from by decide +kernel) rfl put_a5
theorem m12_37 : M12 37 ls (.int y :: .int x :: st) H Q = M12 38 ls (.int (x + y) :: st) H Q := w_x (show decode kb12 37 = .ok (.iadd, 1) from by decide +kernel) rfl
theorem m12_38u : M12 38 [l0, l1, l2, l3, l4, .unset, l6] ((.int v) :: st) H Q = M12 40 [l0, l1, l2, l3, l4, .val (.int v), l6] st H Q := w_st (i := 5) (p := isI) (show decode kb12 38 = .ok (.istore 5, 2) from by decide +kernel) rfl rfl rfl rfl rfl rfl
theorem m12_38i : M12 38 [l0, l1, l2, l3, l4, .val (.int z), l6] ((.int v) :: st) H Q = M12 40 [l0, l1, l2, l3, l4, .val (.int v), l6] st H Q := w_st (i := 5) (p := isI) (show decode kb12 38 = .ok (.istore 5, 2) from by decide +kernel) rfl rfl rfl rfl rfl rfl
theorem m12_38r : M12 38 [l0, l1, l2, l3, l4, .val (.ref q), l6] ((.int v) :: st) H Q = M12 40 [l0, l1, l2, l3, l4, .val (.int v), l6] st H Q := w_st (i := 5) (p := isI) (show decode kb12 38 = .ok (.istore 5, 2) from by decide +kernel) rfl rfl rfl rfl rfl rfl
theorem m12_40 : M12 40 [l0, l1, l2, l3, l4, .val (.int v), l6] st H Q = M12 42 [l0, l1, l2, l3, l4, .val (.int v), l6] (.int v :: st) H Q := w_x (show decode kb12 40 = .ok (.iload 5, 2) from by decide +kernel) rfl
theorem m12_42 : M12 42 [.val (.ref r), l1, l2, l3, l4, l5, l6] st H Q = M12 43 [.val (.ref r), l1, l2, l3, l4, l5, l6] (.ref r :: st) H Q := w_x (show decode kb12 42 = .ok (.aload_n 0, 1) from by decide +kernel) rfl
theorem m12_43 : M12 43 ls (.ref b :: st) (put b pre s A post) Q = M12 46 ls (.ref (b + 13) :: st) (put b pre s A post) Q := w_get (show decode kb12 43 = .ok (.getfield 47, 3) from by decide +kernel) gf_47 put_o rfl
theorem m12_46 : M12 46 [l0, l1, l2, l3, .val (.int v), l5, l6] st H Q = M12 48 [l0, l1, l2, l3, .val (.int v), l5, l6] (.int v :: st) H Q := w_x (show decode kb12 46 = .ok (.iload 4, 2) from by decide +kernel) rfl
theorem m12_48  : M12 48 ls (.int j :: .ref (b + 13) :: st) (put b pre s A post) Q = (inB j (A 12) ∧ M12 49 ls (.int (getA (A 12) j) :: st) (put b pre s A post) Q) := w_ild (show decode kb12 48 = .ok (.iaload, 1) from by decide +kernel) rfl put_a12
theorem m12_49 : M12 49 ls (.int y :: .int x :: st) H Q = if x < y then M12 52 ls st H Q else M12 63 ls st H Q := w_icmpN (show decode kb12 49 = .ok (.if_icmp .ge 14, 3) from by decide +kernel) (i_ge x y) rfl
theorem m12_52 : M12 52 [.val (.ref r), l1, l2, l3, l4, l5, l6] st H Q = M12 53 [.val (.ref r), l1, l2, l3, l4, l5, l6] (.ref r :: st) H Q := w_x (show decode kb12 52 = .ok (.aload_n 0, 1) from by decide +kernel) rfl
theorem m12_53 : M12 53 ls (.ref b :: st) (put b pre s A post) Q = M12 56 ls (.ref (b + 13) :: st) (put b pre s A post) Q := w_get (show decode kb12 53 = .ok (.getfield 47, 3) from by decide +kernel) gf_47 put_o rfl
theorem m12_56 : M12 56 [l0, l1, l2, l3, .val (.int v), l5, l6] st H Q = M12 58 [l0, l1, l2, l3, .val (.int v), l5, l6] (.int v :: st) H Q := w_x (show decode kb12 56 = .ok (.iload 4, 2) from by decide +kernel) rfl
theorem m12_58 : M12 58 [l0, l1, l2, l3, l4, .val (.int v), l6] st H Q = M12 60 [l0, l1, l2, l3, l4, .val (.int v), l6] (.int v :: st) H Q := w_x (show decode kb12 58 = .ok (.iload 5, 2) from by decide +kernel) rfl
theorem m12_60  : M12 60 ls (.int v :: .int j :: .ref (b + 13) :: st) (put b pre s A post) Q = (inB j (A 12) ∧ M12 61 ls st (put b pre s (ou A 12 (setA (A 12) j v)) post) Q) := w_ist (show decode kb12 60 = .ok (.iastore, 1) from by decide +kernel) rfl put_a12 (Nat.zero_le _) rfl put_w12
theorem m12_61 : M12 61 ls st H Q = M12 62 ls (.int 1 :: st) H Q := w_con (show decode kb12 61 = .ok (.iconst 1, 1) from by decide +kernel) rfl (by decide)
theorem m12_62i : M12 62 [l0, l1, .val (.int z), l3, l4, l5, l6] ((.int v) :: st) H Q = M12 63 [l0, l1, .val (.int v), l3, l4, l5, l6] st H Q := w_st (i := 2) (p := isI) (show decode kb12 62 = .ok (.istore_n 2, 1) from by decide +kernel) rfl rfl rfl rfl rfl rfl
theorem m12_63 : M12 63 [l0, l1, l2, .val (.int v), l4, l5, l6] st H Q = M12 66 [l0, l1, l2, .val (.int (v + 1)), l4, l5, l6] st H Q := w_iinc (show decode kb12 63 = .ok (.iinc 3 1, 3) from by decide +kernel) rfl (by decide) rfl
theorem m12_66 : M12 66 ls st H Q = M12 4 ls st H Q := w_x (show decode kb12 66 = .ok (.goto (-62), 3) from by decide +kernel) rfl
theorem m12_69 : M12 69 ls st H Q = M12 70 ls (.int 0 :: st) H Q := w_con (show decode kb12 69 = .ok (.iconst 0, 1) from by decide +kernel) rfl (by decide)
theorem m12_70i : M12 70 [l0, l1, l2, .val (.int z), l4, l5, l6] ((.int v) :: st) H Q = M12 71 [l0, l1, l2, .val (.int v), l4, l5, l6] st H Q := w_st (i := 3) (p := isI) (show decode kb12 70 = .ok (.istore_n 3, 1) from by decide +kernel) rfl rfl rfl rfl rfl rfl
theorem m12_71 : M12 71 [l0, l1, l2, .val (.int v), l4, l5, l6] st H Q = M12 72 [l0, l1, l2, .val (.int v), l4, l5, l6] (.int v :: st) H Q := w_x (show decode kb12 71 = .ok (.iload_n 3, 1) from by decide +kernel) rfl
theorem m12_72 : M12 72 [.val (.ref r), l1, l2, l3, l4, l5, l6] st H Q = M12 73 [.val (.ref r), l1, l2, l3, l4, l5, l6] (.ref r :: st) H Q := w_x (show decode kb12 72 = .ok (.aload_n 0, 1) from by decide +kernel) rfl
theorem m12_73 : M12 73 ls (.ref b :: st) (put b pre s A post) Q = M12 76 ls (.int (s 0) :: st) (put b pre s A post) Q := w_get (show decode kb12 73 = .ok (.getfield 65, 3) from by decide +kernel) gf_65 put_o rfl
theorem m12_76 : M12 76 ls (.int y :: .int x :: st) H Q = if x < y then M12 79 ls st H Q else M12 181 ls st H Q := w_icmpN (show decode kb12 76 = .ok (.if_icmp .ge 105, 3) from by decide +kernel) (i_ge x y) rfl
theorem m12_79 : M12 79 ls st H Q = M12 80 ls (.int 0 :: st) H Q := w_con (show decode kb12 79 = .ok (.iconst 0, 1) from by decide +kernel) rfl (by decide)
theorem m12_80u : M12 80 [l0, l1, l2, l3, .unset, l5, l6] ((.int v) :: st) H Q = M12 82 [l0, l1, l2, l3, .val (.int v), l5, l6] st H Q := w_st (i := 4) (p := isI) (show decode kb12 80 = .ok (.istore 4, 2) from by decide +kernel) rfl rfl rfl rfl rfl rfl
theorem m12_80i : M12 80 [l0, l1, l2, l3, .val (.int z), l5, l6] ((.int v) :: st) H Q = M12 82 [l0, l1, l2, l3, .val (.int v), l5, l6] st H Q := w_st (i := 4) (p := isI) (show decode kb12 80 = .ok (.istore 4, 2) from by decide +kernel) rfl rfl rfl rfl rfl rfl
theorem m12_80r : M12 80 [l0, l1, l2, l3, .val (.ref q), l5, l6] ((.int v) :: st) H Q = M12 82 [l0, l1, l2, l3, .val (.int v), l5, l6] st H Q := w_st (i := 4) (p := isI) (show decode kb12 80 = .ok (.istore 4, 2) from by decide +kernel) rfl rfl rfl rfl rfl rfl
theorem m12_82 : M12 82 [l0, l1, l2, l3, .val (.int v), l5, l6] st H Q = M12 84 [l0, l1, l2, l3, .val (.int v), l5, l6] (.int v :: st) H Q := w_x (show decode kb12 82 = .ok (.iload 4, 2) from by decide +kernel) rfl
theorem m12_84 : M12 84 [.val (.ref r), l1, l2, l3, l4, l5, l6] st H Q = M12 85 [.val (.ref r), l1, l2, l3, l4, l5, l6] (.ref r :: st) H Q := w_x (show decode kb12 84 = .ok (.aload_n 0, 1) from by decide +kernel) rfl
theorem m12_85 : M12 85 ls (.ref b :: st) (put b pre s A post) Q = M12 88 ls (.int (s 0) :: st) (put b pre s A post) Q := w_get (show decode kb12 85 = .ok (.getfield 65, 3) from by decide +kernel) gf_65 put_o rfl
theorem m12_88 : M12 88 ls (.int y :: .int x :: st) H Q = if x < y then M12 91 ls st H Q else M12 175 ls st H Q := w_icmpN (show decode kb12 88 = .ok (.if_icmp .ge 87, 3) from by decide +kernel) (i_ge x y) rfl
theorem m12_91 : M12 91 [l0, l1, l2, .val (.int v), l4, l5, l6] st H Q = M12 92 [l0, l1, l2, .val (.int v), l4, l5, l6] (.int v :: st) H Q := w_x (show decode kb12 91 = .ok (.iload_n 3, 1) from by decide +kernel) rfl
theorem m12_92 : M12 92 ls st H Q = M12 94 ls (.int 32 :: st) H Q := w_con (show decode kb12 92 = .ok (.bipush 32, 2) from by decide +kernel) rfl (by decide)
theorem m12_94 : M12 94 ls (.int y :: .int x :: st) H Q = M12 95 ls (.int (x * y) :: st) H Q := w_x (show decode kb12 94 = .ok (.imul, 1) from by decide +kernel) rfl
theorem m12_95 : M12 95 [l0, l1, l2, l3, .val (.int v), l5, l6] st H Q = M12 97 [l0, l1, l2, l3, .val (.int v), l5, l6] (.int v :: st) H Q := w_x (show decode kb12 95 = .ok (.iload 4, 2) from by decide +kernel) rfl
theorem m12_97 : M12 97 ls (.int y :: .int x :: st) H Q = M12 98 ls (.int (x + y) :: st) H Q := w_x (show decode kb12 97 = .ok (.iadd, 1) from by decide +kernel) rfl
theorem m12_98u : M12 98 [l0, l1, l2, l3, l4, .unset, l6] ((.int v) :: st) H Q = M12 100 [l0, l1, l2, l3, l4, .val (.int v), l6] st H Q := w_st (i := 5) (p := isI) (show decode kb12 98 = .ok (.istore 5, 2) from by decide +kernel) rfl rfl rfl rfl rfl rfl
theorem m12_98i : M12 98 [l0, l1, l2, l3, l4, .val (.int z), l6] ((.int v) :: st) H Q = M12 100 [l0, l1, l2, l3, l4, .val (.int v), l6] st H Q := w_st (i := 5) (p := isI) (show decode kb12 98 = .ok (.istore 5, 2) from by decide +kernel) rfl rfl rfl rfl rfl rfl
theorem m12_98r : M12 98 [l0, l1, l2, l3, l4, .val (.ref q), l6] ((.int v) :: st) H Q = M12 100 [l0, l1, l2, l3, l4, .val (.int v), l6] st H Q := w_st (i := 5) (p := isI) (show decode kb12 98 = .ok (.istore 5, 2) from by decide +kernel) rfl rfl rfl rfl rfl rfl
theorem m12_100 : M12 100 [.val (.ref r), l1, l2, l3, l4, l5, l6] st H Q = M12 101 [.val (.ref r), l1, l2, l3, l4, l5, l6] (.ref r :: st) H Q := w_x (show decode kb12 100 = .ok (.aload_n 0, 1) from by decide +kernel) rfl
theorem m12_101 : M12 101 ls (.ref b :: st) (put b pre s A post) Q = M12 104 ls (.ref (b + 12) :: st) (put b pre s A post) Q := w_get (show decode kb12 101 = .ok (.getfield 43, 3) from by decide +kernel) gf_43 put_o rfl
theorem m12_104 : M12 104 [l0, l1, l2, l3, l4, .val (.int v), l6] st H Q = M12 106 [l0, l1, l2, l3, l4, .val (.int v), l6] (.int v :: st) H Q := w_x (show decode kb12 104 = .ok (.iload 5, 2) from by decide +kernel) rfl
theorem m12_106  : M12 106 ls (.int j :: .ref (b + 12) :: st) (put b pre s A post) Q = (inB j (A 11) ∧ M12 107 ls (.int (getA (A 11) j) :: st) (put b pre s A post) Q) := w_ild (show decode kb12 106 = .ok (.baload, 1) from by decide +kernel) rfl put_a11
theorem m12_107 : M12 107 ls (.int x :: st) H Q = if x = 0 then M12 169 ls st H Q else M12 110 ls st H Q := w_if (show decode kb12 107 = .ok (.ifCond .eq 62, 3) from by decide +kernel) (z_eq x) rfl
theorem m12_110 : M12 110 [.val (.ref r), l1, l2, l3, l4, l5, l6] st H Q = M12 111 [.val (.ref r), l1, l2, l3, l4, l5, l6] (.ref r :: st) H Q := w_x (show decode kb12 110 = .ok (.aload_n 0, 1) from by decide +kernel) rfl
theorem m12_111 : M12 111 ls (.ref b :: st) (put b pre s A post) Q = M12 114 ls (.ref (b + 11) :: st) (put b pre s A post) Q := w_get (show decode kb12 111 = .ok (.getfield 40, 3) from by decide +kernel) gf_40 put_o rfl
theorem m12_114 : M12 114 [l0, l1, l2, l3, l4, .val (.int v), l6] st H Q = M12 116 [l0, l1, l2, l3, l4, .val (.int v), l6] (.int v :: st) H Q := w_x (show decode kb12 114 = .ok (.iload 5, 2) from by decide +kernel) rfl
theorem m12_116  : M12 116 ls (.int j :: .ref (b + 11) :: st) (put b pre s A post) Q = (inB j (A 10) ∧ M12 117 ls (.int (getA (A 10) j) :: st) (put b pre s A post) Q) := w_ild (show decode kb12 116 = .ok (.iaload, 1) from by decide +kernel) rfl put_a10
theorem m12_117 : M12 117 [.val (.ref r), l1, l2, l3, l4, l5, l6] st H Q = M12 118 [.val (.ref r), l1, l2, l3, l4, l5, l6] (.ref r :: st) H Q := w_x (show decode kb12 117 = .ok (.aload_n 0, 1) from by decide +kernel) rfl
theorem m12_118 : M12 118 ls (.ref b :: st) (put b pre s A post) Q = M12 121 ls (.ref (b + 2) :: st) (put b pre s A post) Q := w_get (show decode kb12 118 = .ok (.getfield 13, 3) from by decide +kernel) gf_13 put_o rfl
theorem m12_121 : M12 121 [l0, l1, l2, l3, .val (.int v), l5, l6] st H Q = M12 123 [l0, l1, l2, l3, .val (.int v), l5, l6] (.int v :: st) H Q := w_x (show decode kb12 121 = .ok (.iload 4, 2) from by decide +kernel) rfl
theorem m12_123  : M12 123 ls (.int j :: .ref (b + 2) :: st) (put b pre s A post) Q = (inB j (A 1) ∧ M12 124 ls (.int (getA (A 1) j) :: st) (put b pre s A post) Q) := w_ild (show decode kb12 123 = .ok (.iaload, 1) from by decide +kernel) rfl put_a1
theorem m12_124 : M12 124 ls (.int y :: .int x :: st) H Q = M12 125 ls (.int (x + y) :: st) H Q := w_x (show decode kb12 124 = .ok (.iadd, 1) from by decide +kernel) rfl
theorem m12_125 : M12 125 [l0, .val (.int v), l2, l3, l4, l5, l6] st H Q = M12 126 [l0, .val (.int v), l2, l3, l4, l5, l6] (.int v :: st) H Q := w_x (show decode kb12 125 = .ok (.iload_n 1, 1) from by decide +kernel) rfl
theorem m12_126 : M12 126 ls (.int y :: .int x :: st) H Q = if y < x then M12 129 ls st H Q else M12 169 ls st H Q := w_icmpN (show decode kb12 126 = .ok (.if_icmp .le 43, 3) from by decide +kernel) (i_le x y) rfl
theorem m12_129 : M12 129 [.val (.ref r), l1, l2, l3, l4, l5, l6] st H Q = M12 130 [.val (.ref r), l1, l2, l3, l4, l5, l6] (.ref r :: st) H Q := w_x (show decode kb12 129 = .ok (.aload_n 0, 1) from by decide +kernel) rfl
theorem m12_130 : M12 130 ls (.ref b :: st) (put b pre s A post) Q = M12 133 ls (.ref (b + 13) :: st) (put b pre s A post) Q := w_get (show decode kb12 130 = .ok (.getfield 47, 3) from by decide +kernel) gf_47 put_o rfl
theorem m12_133 : M12 133 [l0, l1, l2, l3, .val (.int v), l5, l6] st H Q = M12 135 [l0, l1, l2, l3, .val (.int v), l5, l6] (.int v :: st) H Q := w_x (show decode kb12 133 = .ok (.iload 4, 2) from by decide +kernel) rfl
theorem m12_135  : M12 135 ls (.int j :: .ref (b + 13) :: st) (put b pre s A post) Q = (inB j (A 12) ∧ M12 136 ls (.int (getA (A 12) j) :: st) (put b pre s A post) Q) := w_ild (show decode kb12 135 = .ok (.iaload, 1) from by decide +kernel) rfl put_a12
theorem m12_136 : M12 136 [.val (.ref r), l1, l2, l3, l4, l5, l6] st H Q = M12 137 [.val (.ref r), l1, l2, l3, l4, l5, l6] (.ref r :: st) H Q := w_x (show decode kb12 136 = .ok (.aload_n 0, 1) from by decide +kernel) rfl
theorem m12_137 : M12 137 ls (.ref b :: st) (put b pre s A post) Q = M12 140 ls (.ref (b + 10) :: st) (put b pre s A post) Q := w_get (show decode kb12 137 = .ok (.getfield 37, 3) from by decide +kernel) gf_37 put_o rfl
theorem m12_140 : M12 140 [l0, l1, l2, l3, l4, .val (.int v), l6] st H Q = M12 142 [l0, l1, l2, l3, l4, .val (.int v), l6] (.int v :: st) H Q := w_x (show decode kb12 140 = .ok (.iload 5, 2) from by decide +kernel) rfl
theorem m12_142  : M12 142 ls (.int j :: .ref (b + 10) :: st) (put b pre s A post) Q = (inB j (A 9) ∧ M12 143 ls (.int (getA (A 9) j) :: st) (put b pre s A post) Q) := w_ild (show decode kb12 142 = .ok (.iaload, 1) from by decide +kernel) rfl put_a9
theorem m12_143 : M12 143 ls (.int y :: .int x :: st) H Q = M12 144 ls (.int (x + y) :: st) H Q := w_x (show decode kb12 143 = .ok (.iadd, 1) from by decide +kernel) rfl
theorem m12_144 : M12 144 ls st H Q = M12 145 ls (.int 1 :: st) H Q := w_con (show decode kb12 144 = .ok (.iconst 1, 1) from by decide +kernel) rfl (by decide)
theorem m12_145 : M12 145 ls (.int y :: .int x :: st) H Q = M12 146 ls (.int (x - y) :: st) H Q := w_x (show decode kb12 145 = .ok (.isub, 1) from by decide +kernel) rfl
theorem m12_146u : M12 146 [l0, l1, l2, l3, l4, l5, .unset] ((.int v) :: st) H Q = M12 148 [l0, l1, l2, l3, l4, l5, .val (.int v)] st H Q := w_st (i := 6) (p := isI) (show decode kb12 146 = .ok (.istore 6, 2) from by decide +kernel) rfl rfl rfl rfl rfl rfl
theorem m12_146i : M12 146 [l0, l1, l2, l3, l4, l5, .val (.int z)] ((.int v) :: st) H Q = M12 148 [l0, l1, l2, l3, l4, l5, .val (.int v)] st H Q := w_st (i := 6) (p := isI) (show decode kb12 146 = .ok (.istore 6, 2) from by decide +kernel) rfl rfl rfl rfl rfl rfl
theorem m12_146r : M12 146 [l0, l1, l2, l3, l4, l5, .val (.ref q)] ((.int v) :: st) H Q = M12 148 [l0, l1, l2, l3, l4, l5, .val (.int v)] st H Q := w_st (i := 6) (p := isI) (show decode kb12 146 = .ok (.istore 6, 2) from by decide +kernel) rfl rfl rfl rfl rfl rfl
theorem m12_148 : M12 148 [l0, l1, l2, l3, l4, l5, .val (.int v)] st H Q = M12 150 [l0, l1, l2, l3, l4, l5, .val (.int v)] (.int v :: st) H Q := w_x (show decode kb12 148 = .ok (.iload 6, 2) from by decide +kernel) rfl
theorem m12_150 : M12 150 [.val (.ref r), l1, l2, l3, l4, l5, l6] st H Q = M12 151 [.val (.ref r), l1, l2, l3, l4, l5, l6] (.ref r :: st) H Q := w_x (show decode kb12 150 = .ok (.aload_n 0, 1) from by decide +kernel) rfl
theorem m12_151 : M12 151 ls (.ref b :: st) (put b pre s A post) Q = M12 154 ls (.ref (b + 13) :: st) (put b pre s A post) Q := w_get (show decode kb12 151 = .ok (.getfield 47, 3) from by decide +kernel) gf_47 put_o rfl
theorem m12_154 : M12 154 [l0, l1, l2, .val (.int v), l4, l5, l6] st H Q = M12 155 [l0, l1, l2, .val (.int v), l4, l5, l6] (.int v :: st) H Q := w_x (show decode kb12 154 = .ok (.iload_n 3, 1) from by decide +kernel) rfl
theorem m12_155  : M12 155 ls (.int j :: .ref (b + 13) :: st) (put b pre s A post) Q = (inB j (A 12) ∧ M12 156 ls (.int (getA (A 12) j) :: st) (put b pre s A post) Q) := w_ild (show decode kb12 155 = .ok (.iaload, 1) from by decide +kernel) rfl put_a12
theorem m12_156 : M12 156 ls (.int y :: .int x :: st) H Q = if x < y then M12 159 ls st H Q else M12 169 ls st H Q := w_icmpN (show decode kb12 156 = .ok (.if_icmp .ge 13, 3) from by decide +kernel) (i_ge x y) rfl
theorem m12_159 : M12 159 [.val (.ref r), l1, l2, l3, l4, l5, l6] st H Q = M12 160 [.val (.ref r), l1, l2, l3, l4, l5, l6] (.ref r :: st) H Q := w_x (show decode kb12 159 = .ok (.aload_n 0, 1) from by decide +kernel) rfl
theorem m12_160 : M12 160 ls (.ref b :: st) (put b pre s A post) Q = M12 163 ls (.ref (b + 13) :: st) (put b pre s A post) Q := w_get (show decode kb12 160 = .ok (.getfield 47, 3) from by decide +kernel) gf_47 put_o rfl
theorem m12_163 : M12 163 [l0, l1, l2, .val (.int v), l4, l5, l6] st H Q = M12 164 [l0, l1, l2, .val (.int v), l4, l5, l6] (.int v :: st) H Q := w_x (show decode kb12 163 = .ok (.iload_n 3, 1) from by decide +kernel) rfl
theorem m12_164 : M12 164 [l0, l1, l2, l3, l4, l5, .val (.int v)] st H Q = M12 166 [l0, l1, l2, l3, l4, l5, .val (.int v)] (.int v :: st) H Q := w_x (show decode kb12 164 = .ok (.iload 6, 2) from by decide +kernel) rfl
theorem m12_166  : M12 166 ls (.int v :: .int j :: .ref (b + 13) :: st) (put b pre s A post) Q = (inB j (A 12) ∧ M12 167 ls st (put b pre s (ou A 12 (setA (A 12) j v)) post) Q) := w_ist (show decode kb12 166 = .ok (.iastore, 1) from by decide +kernel) rfl put_a12 (Nat.zero_le _) rfl put_w12
theorem m12_167 : M12 167 ls st H Q = M12 168 ls (.int 1 :: st) H Q := w_con (show decode kb12 167 = .ok (.iconst 1, 1) from by decide +kernel) rfl (by decide)
theorem m12_168i : M12 168 [l0, l1, .val (.int z), l3, l4, l5, l6] ((.int v) :: st) H Q = M12 169 [l0, l1, .val (.int v), l3, l4, l5, l6] st H Q := w_st (i := 2) (p := isI) (show decode kb12 168 = .ok (.istore_n 2, 1) from by decide +kernel) rfl rfl rfl rfl rfl rfl
theorem m12_169 : M12 169 [l0, l1, l2, l3, .val (.int v), l5, l6] st H Q = M12 172 [l0, l1, l2, l3, .val (.int (v + 1)), l5, l6] st H Q := w_iinc (show decode kb12 169 = .ok (.iinc 4 1, 3) from by decide +kernel) rfl (by decide) rfl
theorem m12_172 : M12 172 ls st H Q = M12 82 ls st H Q := w_x (show decode kb12 172 = .ok (.goto (-90), 3) from by decide +kernel) rfl
theorem m12_175 : M12 175 [l0, l1, l2, .val (.int v), l4, l5, l6] st H Q = M12 178 [l0, l1, l2, .val (.int (v + 1)), l4, l5, l6] st H Q := w_iinc (show decode kb12 175 = .ok (.iinc 3 1, 3) from by decide +kernel) rfl (by decide) rfl
theorem m12_178 : M12 178 ls st H Q = M12 71 ls st H Q := w_x (show decode kb12 178 = .ok (.goto (-107), 3) from by decide +kernel) rfl
theorem m12_181 : M12 181 [l0, l1, .val (.int v), l3, l4, l5, l6] st H Q = M12 182 [l0, l1, .val (.int v), l3, l4, l5, l6] (.int v :: st) H Q := w_x (show decode kb12 181 = .ok (.iload_n 2, 1) from by decide +kernel) rfl
theorem m12_182 : M12 182 ls (.int z :: st) H Q = Q (some (.int (nar .boolean z))) H := w_iretN (show decode kb12 182 = .ok (.ireturn, 1) from by decide +kernel) rfl (by simp)
theorem m13_0 : M13 0 ls st H Q = M13 1 ls (.int 0 :: st) H Q := w_con (show decode kb13 0 = .ok (.iconst 0, 1) from by decide +kernel) rfl (by decide)
theorem m13_1u : M13 1 [l0, .unset] ((.int v) :: st) H Q = M13 2 [l0, .val (.int v)] st H Q := w_st (i := 1) (p := isI) (show decode kb13 1 = .ok (.istore_n 1, 1) from by decide +kernel) rfl rfl rfl rfl rfl rfl
theorem m13_2 : M13 2 [l0, .val (.int v)] st H Q = M13 3 [l0, .val (.int v)] (.int v :: st) H Q := w_x (show decode kb13 2 = .ok (.iload_n 1, 1) from by decide +kernel) rfl
theorem m13_3 : M13 3 [.val (.ref r), l1] st H Q = M13 4 [.val (.ref r), l1] (.ref r :: st) H Q := w_x (show decode kb13 3 = .ok (.aload_n 0, 1) from by decide +kernel) rfl
theorem m13_4 : M13 4 ls (.ref b :: st) (put b pre s A post) Q = M13 7 ls (.int (s 0) :: st) (put b pre s A post) Q := w_get (show decode kb13 4 = .ok (.getfield 65, 3) from by decide +kernel) gf_65 put_o rfl
theorem m13_7 : M13 7 ls (.int y :: .int x :: st) H Q = if x < y then M13 10 ls st H Q else M13 35 ls st H Q := w_icmpN (show decode kb13 7 = .ok (.if_icmp .ge 28, 3) from by decide +kernel) (i_ge x y) rfl
theorem m13_10 : M13 10 [.val (.ref r), l1] st H Q = M13 11 [.val (.ref r), l1] (.ref r :: st) H Q := w_x (show decode kb13 10 = .ok (.aload_n 0, 1) from by decide +kernel) rfl
theorem m13_11 : M13 11 ls (.ref b :: st) (put b pre s A post) Q = M13 14 ls (.ref (b + 14) :: st) (put b pre s A post) Q := w_get (show decode kb13 11 = .ok (.getfield 50, 3) from by decide +kernel) gf_50 put_o rfl
theorem m13_14 : M13 14 [l0, .val (.int v)] st H Q = M13 15 [l0, .val (.int v)] (.int v :: st) H Q := w_x (show decode kb13 14 = .ok (.iload_n 1, 1) from by decide +kernel) rfl
theorem m13_15 : M13 15 [.val (.ref r), l1] st H Q = M13 16 [.val (.ref r), l1] (.ref r :: st) H Q := w_x (show decode kb13 15 = .ok (.aload_n 0, 1) from by decide +kernel) rfl
theorem m13_16 : M13 16 ls (.ref b :: st) (put b pre s A post) Q = M13 19 ls (.ref (b + 13) :: st) (put b pre s A post) Q := w_get (show decode kb13 16 = .ok (.getfield 47, 3) from by decide +kernel) gf_47 put_o rfl
theorem m13_19 : M13 19 [l0, .val (.int v)] st H Q = M13 20 [l0, .val (.int v)] (.int v :: st) H Q := w_x (show decode kb13 19 = .ok (.iload_n 1, 1) from by decide +kernel) rfl
theorem m13_20  : M13 20 ls (.int j :: .ref (b + 13) :: st) (put b pre s A post) Q = (inB j (A 12) ∧ M13 21 ls (.int (getA (A 12) j) :: st) (put b pre s A post) Q) := w_ild (show decode kb13 20 = .ok (.iaload, 1) from by decide +kernel) rfl put_a12
theorem m13_21 : M13 21 [.val (.ref r), l1] st H Q = M13 22 [.val (.ref r), l1] (.ref r :: st) H Q := w_x (show decode kb13 21 = .ok (.aload_n 0, 1) from by decide +kernel) rfl
theorem m13_22 : M13 22 ls (.ref b :: st) (put b pre s A post) Q = M13 25 ls (.ref (b + 13) :: st) (put b pre s A post) Q := w_get (show decode kb13 22 = .ok (.getfield 47, 3) from by decide +kernel) gf_47 put_o rfl
theorem m13_25 : M13 25 ls st H Q = M13 26 ls (.int 0 :: st) H Q := w_con (show decode kb13 25 = .ok (.iconst 0, 1) from by decide +kernel) rfl (by decide)
theorem m13_26  : M13 26 ls (.int j :: .ref (b + 13) :: st) (put b pre s A post) Q = (inB j (A 12) ∧ M13 27 ls (.int (getA (A 12) j) :: st) (put b pre s A post) Q) := w_ild (show decode kb13 26 = .ok (.iaload, 1) from by decide +kernel) rfl put_a12
theorem m13_27 : M13 27 ls (.int y :: .int x :: st) H Q = M13 28 ls (.int (x - y) :: st) H Q := w_x (show decode kb13 27 = .ok (.isub, 1) from by decide +kernel) rfl
theorem m13_28  : M13 28 ls (.int v :: .int j :: .ref (b + 14) :: st) (put b pre s A post) Q = (inB j (A 13) ∧ M13 29 ls st (put b pre s (ou A 13 (setA (A 13) j v)) post) Q) := w_ist (show decode kb13 28 = .ok (.iastore, 1) from by decide +kernel) rfl put_a13 (Nat.zero_le _) rfl put_w13
theorem m13_29 : M13 29 [l0, .val (.int v)] st H Q = M13 32 [l0, .val (.int (v + 1))] st H Q := w_iinc (show decode kb13 29 = .ok (.iinc 1 1, 3) from by decide +kernel) rfl (by decide) rfl
theorem m13_32 : M13 32 ls st H Q = M13 2 ls st H Q := w_x (show decode kb13 32 = .ok (.goto (-30), 3) from by decide +kernel) rfl
theorem m13_35 : M13 35 ls st H Q = M13 36 ls (.int 0 :: st) H Q := w_con (show decode kb13 35 = .ok (.iconst 0, 1) from by decide +kernel) rfl (by decide)
theorem m13_36i : M13 36 [l0, .val (.int z)] ((.int v) :: st) H Q = M13 37 [l0, .val (.int v)] st H Q := w_st (i := 1) (p := isI) (show decode kb13 36 = .ok (.istore_n 1, 1) from by decide +kernel) rfl rfl rfl rfl rfl rfl
theorem m13_37 : M13 37 [l0, .val (.int v)] st H Q = M13 38 [l0, .val (.int v)] (.int v :: st) H Q := w_x (show decode kb13 37 = .ok (.iload_n 1, 1) from by decide +kernel) rfl
theorem m13_38 : M13 38 [.val (.ref r), l1] st H Q = M13 39 [.val (.ref r), l1] (.ref r :: st) H Q := w_x (show decode kb13 38 = .ok (.aload_n 0, 1) from by decide +kernel) rfl
theorem m13_39 : M13 39 ls (.ref b :: st) (put b pre s A post) Q = M13 42 ls (.int (s 1) :: st) (put b pre s A post) Q := w_get (show decode kb13 39 = .ok (.getfield 69, 3) from by decide +kernel) gf_69 put_o rfl
theorem m13_42 : M13 42 ls (.int y :: .int x :: st) H Q = if x < y then M13 45 ls st H Q else M13 87 ls st H Q := w_icmpN (show decode kb13 42 = .ok (.if_icmp .ge 45, 3) from by decide +kernel) (i_ge x y) rfl
theorem m13_45 : M13 45 [.val (.ref r), l1] st H Q = M13 46 [.val (.ref r), l1] (.ref r :: st) H Q := w_x (show decode kb13 45 = .ok (.aload_n 0, 1) from by decide +kernel) rfl
theorem m13_46 : M13 46 ls (.ref b :: st) (put b pre s A post) Q = M13 49 ls (.ref (b + 7) :: st) (put b pre s A post) Q := w_get (show decode kb13 46 = .ok (.getfield 28, 3) from by decide +kernel) gf_28 put_o rfl
theorem m13_49 : M13 49 [l0, .val (.int v)] st H Q = M13 50 [l0, .val (.int v)] (.int v :: st) H Q := w_x (show decode kb13 49 = .ok (.iload_n 1, 1) from by decide +kernel) rfl
theorem m13_50 : M13 50 [.val (.ref r), l1] st H Q = M13 51 [.val (.ref r), l1] (.ref r :: st) H Q := w_x (show decode kb13 50 = .ok (.aload_n 0, 1) from by decide +kernel) rfl
theorem m13_51 : M13 51 ls (.ref b :: st) (put b pre s A post) Q = M13 54 ls (.ref (b + 6) :: st) (put b pre s A post) Q := w_get (show decode kb13 51 = .ok (.getfield 25, 3) from by decide +kernel) gf_25 put_o rfl
theorem m13_54 : M13 54 [l0, .val (.int v)] st H Q = M13 55 [l0, .val (.int v)] (.int v :: st) H Q := w_x (show decode kb13 54 = .ok (.iload_n 1, 1) from by decide +kernel) rfl
theorem m13_55  : M13 55 ls (.int j :: .ref (b + 6) :: st) (put b pre s A post) Q = (inB j (A 5) ∧ M13 56 ls (.int (getA (A 5) j) :: st) (put b pre s A post) Q) := w_ild (show decode kb13 55 = .ok (.iaload, 1) from by decide +kernel) rfl put_a5
theorem m13_56 : M13 56 [.val (.ref r), l1] st H Q = M13 57 [.val (.ref r), l1] (.ref r :: st) H Q := w_x (show decode kb13 56 = .ok (.aload_n 0, 1) from by decide +kernel) rfl
theorem m13_57 : M13 57 ls (.ref b :: st) (put b pre s A post) Q = M13 60 ls (.ref (b + 14) :: st) (put b pre s A post) Q := w_get (show decode kb13 57 = .ok (.getfield 50, 3) from by decide +kernel) gf_50 put_o rfl
theorem m13_60 : M13 60 [.val (.ref r), l1] st H Q = M13 61 [.val (.ref r), l1] (.ref r :: st) H Q := w_x (show decode kb13 60 = .ok (.aload_n 0, 1) from by decide +kernel) rfl
theorem m13_61 : M13 61 ls (.ref b :: st) (put b pre s A post) Q = M13 64 ls (.ref (b + 5) :: st) (put b pre s A post) Q := w_get (show decode kb13 61 = .ok (.getfield 22, 3) from by decide +kernel) gf_22 put_o rfl
theorem m13_64 : M13 64 [l0, .val (.int v)] st H Q = M13 65 [l0, .val (.int v)] (.int v :: st) H Q := w_x (show decode kb13 64 = .ok (.iload_n 1, 1) from by decide +kernel) rfl
theorem m13_65  : M13 65 ls (.int j :: .ref (b + 5) :: st) (put b pre s A post) Q = (inB j (A 4) ∧ M13 66 ls (.int (getA (A 4) j) :: st) (put b pre s A post) Q) := w_ild (show decode kb13 65 = .ok (.iaload, 1) from by decide +kernel) rfl put_a4
theorem m13_66  : M13 66 ls (.int j :: .ref (b + 14) :: st) (put b pre s A post) Q = (inB j (A 13) ∧ M13 67 ls (.int (getA (A 13) j) :: st) (put b pre s A post) Q) := w_ild (show decode kb13 66 = .ok (.iaload, 1) from by decide +kernel) rfl put_a13
theorem m13_67 : M13 67 ls (.int y :: .int x :: st) H Q = M13 68 ls (.int (x + y) :: st) H Q := w_x (show decode kb13 67 = .ok (.iadd, 1) from by decide +kernel) rfl
theorem m13_68 : M13 68 [.val (.ref r), l1] st H Q = M13 69 [.val (.ref r), l1] (.ref r :: st) H Q := w_x (show decode kb13 68 = .ok (.aload_n 0, 1) from by decide +kernel) rfl
theorem m13_69 : M13 69 ls (.ref b :: st) (put b pre s A post) Q = M13 72 ls (.ref (b + 14) :: st) (put b pre s A post) Q := w_get (show decode kb13 69 = .ok (.getfield 50, 3) from by decide +kernel) gf_50 put_o rfl
theorem m13_72 : M13 72 [.val (.ref r), l1] st H Q = M13 73 [.val (.ref r), l1] (.ref r :: st) H Q := w_x (show decode kb13 72 = .ok (.aload_n 0, 1) from by decide +kernel) rfl
theorem m13_73 : M13 73 ls (.ref b :: st) (put b pre s A post) Q = M13 76 ls (.ref (b + 4) :: st) (put b pre s A post) Q := w_get (show decode kb13 73 = .ok (.getfield 19, 3) from by decide +kernel) gf_19 put_o rfl
theorem m13_76 : M13 76 [l0, .val (.int v)] st H Q = M13 77 [l0, .val (.int v)] (.int v :: st) H Q := w_x (show decode kb13 76 = .ok (.iload_n 1, 1) from by decide +kernel) rfl
theorem m13_77  : M13 77 ls (.int j :: .ref (b + 4) :: st) (put b pre s A post) Q = (inB j (A 3) ∧ M13 78 ls (.int (getA (A 3) j) :: st) (put b pre s A post) Q) := w_ild (show decode kb13 77 = .ok (.iaload, 1) from by decide +kernel) rfl put_a3
theorem m13_78  : M13 78 ls (.int j :: .ref (b + 14) :: st) (put b pre s A post) Q = (inB j (A 13) ∧ M13 79 ls (.int (getA (A 13) j) :: st) (put b pre s A post) Q) := w_ild (show decode kb13 78 = .ok (.iaload, 1) from by decide +kernel) rfl put_a13
theorem m13_79 : M13 79 ls (.int y :: .int x :: st) H Q = M13 80 ls (.int (x - y) :: st) H Q := w_x (show decode kb13 79 = .ok (.isub, 1) from by decide +kernel) rfl
theorem m13_80  : M13 80 ls (.int v :: .int j :: .ref (b + 7) :: st) (put b pre s A post) Q = (inB j (A 6) ∧ M13 81 ls st (put b pre s (ou A 6 (setA (A 6) j v)) post) Q) := w_ist (show decode kb13 80 = .ok (.iastore, 1) from by decide +kernel) rfl put_a6 (Nat.zero_le _) rfl put_w6
theorem m13_81 : M13 81 [l0, .val (.int v)] st H Q = M13 84 [l0, .val (.int (v + 1))] st H Q := w_iinc (show decode kb13 81 = .ok (.iinc 1 1, 3) from by decide +kernel) rfl (by decide) rfl
theorem m13_84 : M13 84 ls st H Q = M13 37 ls st H Q := w_x (show decode kb13 84 = .ok (.goto (-47), 3) from by decide +kernel) rfl
theorem m13_87 : M13 87 ls [] H Q = Q none H := w_vret (show decode kb13 87 = .ok (.return_, 1) from by decide +kernel) rfl
theorem m14_0 : M14 0 [.val (.ref r), l1] st H Q = M14 1 [.val (.ref r), l1] (.ref r :: st) H Q := w_x (show decode kb14 0 = .ok (.aload_n 0, 1) from by decide +kernel) rfl
theorem m14_1 : M14 1 ls (.ref b :: st) (put b pre s A post) Q = M14 4 ls (.int (s 4) :: st) (put b pre s A post) Q := w_get (show decode kb14 1 = .ok (.getfield 78, 3) from by decide +kernel) gf_78 put_o rfl
theorem m14_4 : M14 4 ls (.int x :: st) H Q = if x = 0 then M14 7 ls st H Q else M14 10 ls st H Q := w_ifN (show decode kb14 4 = .ok (.ifCond .ne 6, 3) from by decide +kernel) (z_ne x) rfl
theorem m14_7 : M14 7 ls st H Q = M14 9 ls (.int (-6) :: st) H Q := w_con (show decode kb14 7 = .ok (.bipush (-6), 2) from by decide +kernel) rfl (by decide)
theorem m14_9 : M14 9 ls (.int z :: st) H Q = Q (some (.int z)) H := w_iret (show decode kb14 9 = .ok (.ireturn, 1) from by decide +kernel) rfl
theorem m14_10 : M14 10 [l0, .val (.int v)] st H Q = M14 11 [l0, .val (.int v)] (.int v :: st) H Q := w_x (show decode kb14 10 = .ok (.iload_n 1, 1) from by decide +kernel) rfl
theorem m14_11 : M14 11 ls (.int x :: st) H Q = if x < 0 then M14 22 ls st H Q else M14 14 ls st H Q := w_if (show decode kb14 11 = .ok (.ifCond .lt 11, 3) from by decide +kernel) (z_lt x) rfl
theorem m14_14 : M14 14 [l0, .val (.int v)] st H Q = M14 15 [l0, .val (.int v)] (.int v :: st) H Q := w_x (show decode kb14 14 = .ok (.iload_n 1, 1) from by decide +kernel) rfl
theorem m14_15 : M14 15 [.val (.ref r), l1] st H Q = M14 16 [.val (.ref r), l1] (.ref r :: st) H Q := w_x (show decode kb14 15 = .ok (.aload_n 0, 1) from by decide +kernel) rfl
theorem m14_16 : M14 16 ls (.ref b :: st) (put b pre s A post) Q = M14 19 ls (.int (s 1) :: st) (put b pre s A post) Q := w_get (show decode kb14 16 = .ok (.getfield 69, 3) from by decide +kernel) gf_69 put_o rfl
theorem m14_19 : M14 19 ls (.int y :: .int x :: st) H Q = if x < y then M14 25 ls st H Q else M14 22 ls st H Q := w_icmp (show decode kb14 19 = .ok (.if_icmp .lt 6, 3) from by decide +kernel) (i_lt x y) rfl
theorem m14_22 : M14 22 ls st H Q = M14 24 ls (.int (-2) :: st) H Q := w_con (show decode kb14 22 = .ok (.bipush (-2), 2) from by decide +kernel) rfl (by decide)
theorem m14_24 : M14 24 ls (.int z :: st) H Q = Q (some (.int z)) H := w_iret (show decode kb14 24 = .ok (.ireturn, 1) from by decide +kernel) rfl
theorem m14_25 : M14 25 [.val (.ref r), l1] st H Q = M14 26 [.val (.ref r), l1] (.ref r :: st) H Q := w_x (show decode kb14 25 = .ok (.aload_n 0, 1) from by decide +kernel) rfl
theorem m14_26 : M14 26 ls (.ref b :: st) (put b pre s A post) Q = M14 29 ls (.ref (b + 7) :: st) (put b pre s A post) Q := w_get (show decode kb14 26 = .ok (.getfield 28, 3) from by decide +kernel) gf_28 put_o rfl
theorem m14_29 : M14 29 [l0, .val (.int v)] st H Q = M14 30 [l0, .val (.int v)] (.int v :: st) H Q := w_x (show decode kb14 29 = .ok (.iload_n 1, 1) from by decide +kernel) rfl
theorem m14_30  : M14 30 ls (.int j :: .ref (b + 7) :: st) (put b pre s A post) Q = (inB j (A 6) ∧ M14 31 ls (.int (getA (A 6) j) :: st) (put b pre s A post) Q) := w_ild (show decode kb14 30 = .ok (.iaload, 1) from by decide +kernel) rfl put_a6
theorem m14_31 : M14 31 ls (.int z :: st) H Q = Q (some (.int z)) H := w_iret (show decode kb14 31 = .ok (.ireturn, 1) from by decide +kernel) rfl
theorem m15_0 : M15 0 [.val (.ref r), l1] st H Q = M15 1 [.val (.ref r), l1] (.ref r :: st) H Q := w_x (show decode kb15 0 = .ok (.aload_n 0, 1) from by decide +kernel) rfl
theorem m15_1 : M15 1 ls (.ref b :: st) (put b pre s A post) Q = M15 4 ls (.int (s 4) :: st) (put b pre s A post) Q := w_get (show decode kb15 1 = .ok (.getfield 78, 3) from by decide +kernel) gf_78 put_o rfl
theorem m15_4 : M15 4 ls (.int x :: st) H Q = if x = 0 then M15 19 ls st H Q else M15 7 ls st H Q := w_if (show decode kb15 4 = .ok (.ifCond .eq 15, 3) from by decide +kernel) (z_eq x) rfl
theorem m15_7 : M15 7 [l0, .val (.int v)] st H Q = M15 8 [l0, .val (.int v)] (.int v :: st) H Q := w_x (show decode kb15 7 = .ok (.iload_n 1, 1) from by decide +kernel) rfl
theorem m15_8 : M15 8 ls (.int x :: st) H Q = if x < 0 then M15 19 ls st H Q else M15 11 ls st H Q := w_if (show decode kb15 8 = .ok (.ifCond .lt 11, 3) from by decide +kernel) (z_lt x) rfl
theorem m15_11 : M15 11 [l0, .val (.int v)] st H Q = M15 12 [l0, .val (.int v)] (.int v :: st) H Q := w_x (show decode kb15 11 = .ok (.iload_n 1, 1) from by decide +kernel) rfl
theorem m15_12 : M15 12 [.val (.ref r), l1] st H Q = M15 13 [.val (.ref r), l1] (.ref r :: st) H Q := w_x (show decode kb15 12 = .ok (.aload_n 0, 1) from by decide +kernel) rfl
theorem m15_13 : M15 13 ls (.ref b :: st) (put b pre s A post) Q = M15 16 ls (.int (s 0) :: st) (put b pre s A post) Q := w_get (show decode kb15 13 = .ok (.getfield 65, 3) from by decide +kernel) gf_65 put_o rfl
theorem m15_16 : M15 16 ls (.int y :: .int x :: st) H Q = if x < y then M15 22 ls st H Q else M15 19 ls st H Q := w_icmp (show decode kb15 16 = .ok (.if_icmp .lt 6, 3) from by decide +kernel) (i_lt x y) rfl
theorem m15_19 : M15 19 ls st H Q = M15 21 ls (.int (-2147483648) :: st) H Q := w_ldc (show decode kb15 19 = .ok (.ldc 116, 2) from by decide +kernel) (by decide +kernel)
theorem m15_21 : M15 21 ls (.int z :: st) H Q = Q (some (.int z)) H := w_iret (show decode kb15 21 = .ok (.ireturn, 1) from by decide +kernel) rfl
theorem m15_22 : M15 22 [.val (.ref r), l1] st H Q = M15 23 [.val (.ref r), l1] (.ref r :: st) H Q := w_x (show decode kb15 22 = .ok (.aload_n 0, 1) from by decide +kernel) rfl
theorem m15_23 : M15 23 ls (.ref b :: st) (put b pre s A post) Q = M15 26 ls (.ref (b + 14) :: st) (put b pre s A post) Q := w_get (show decode kb15 23 = .ok (.getfield 50, 3) from by decide +kernel) gf_50 put_o rfl
theorem m15_26 : M15 26 [l0, .val (.int v)] st H Q = M15 27 [l0, .val (.int v)] (.int v :: st) H Q := w_x (show decode kb15 26 = .ok (.iload_n 1, 1) from by decide +kernel) rfl
theorem m15_27  : M15 27 ls (.int j :: .ref (b + 14) :: st) (put b pre s A post) Q = (inB j (A 13) ∧ M15 28 ls (.int (getA (A 13) j) :: st) (put b pre s A post) Q) := w_ild (show decode kb15 27 = .ok (.iaload, 1) from by decide +kernel) rfl put_a13
theorem m15_28 : M15 28 ls (.int z :: st) H Q = Q (some (.int z)) H := w_iret (show decode kb15 28 = .ok (.ireturn, 1) from by decide +kernel) rfl
theorem m16_0 : M16 0 [.val (.ref r)] st H Q = M16 1 [.val (.ref r)] (.ref r :: st) H Q := w_x (show decode kb16 0 = .ok (.aload_n 0, 1) from by decide +kernel) rfl
theorem m16_1 : M16 1 ls (.ref b :: st) (put b pre s A post) Q = M16 4 ls (.int (s 4) :: st) (put b pre s A post) Q := w_get (show decode kb16 1 = .ok (.getfield 78, 3) from by decide +kernel) gf_78 put_o rfl
theorem m16_4 : M16 4 ls (.int x :: st) H Q = if x = 0 then M16 7 ls st H Q else M16 10 ls st H Q := w_ifN (show decode kb16 4 = .ok (.ifCond .ne 6, 3) from by decide +kernel) (z_ne x) rfl
theorem m16_7 : M16 7 ls st H Q = M16 9 ls (.int (-6) :: st) H Q := w_con (show decode kb16 7 = .ok (.bipush (-6), 2) from by decide +kernel) rfl (by decide)
theorem m16_9 : M16 9 ls (.int z :: st) H Q = Q (some (.int z)) H := w_iret (show decode kb16 9 = .ok (.ireturn, 1) from by decide +kernel) rfl
theorem m16_10 : M16 10 [.val (.ref r)] st H Q = M16 11 [.val (.ref r)] (.ref r :: st) H Q := w_x (show decode kb16 10 = .ok (.aload_n 0, 1) from by decide +kernel) rfl
theorem m16_11 : M16 11 ls (.ref b :: st) (put b pre s A post) Q = M16 14 ls (.int (s 5) :: st) (put b pre s A post) Q := w_get (show decode kb16 11 = .ok (.getfield 82, 3) from by decide +kernel) gf_82 put_o rfl
theorem m16_14 : M16 14 ls (.int z :: st) H Q = Q (some (.int z)) H := w_iret (show decode kb16 14 = .ok (.ireturn, 1) from by decide +kernel) rfl
theorem m17_0 : M17 0 [l0, l1, .val (.int v)] st H Q = M17 1 [l0, l1, .val (.int v)] (.int v :: st) H Q := w_x (show decode kb17 0 = .ok (.iload_n 2, 1) from by decide +kernel) rfl
theorem m17_1 : M17 1 ls st H Q = M17 2 ls (.int 1 :: st) H Q := w_con (show decode kb17 1 = .ok (.iconst 1, 1) from by decide +kernel) rfl (by decide)
theorem m17_2 : M17 2 ls (.int y :: .int x :: st) H Q = if x = y then M17 5 ls st H Q else M17 12 ls st H Q := w_icmpN (show decode kb17 2 = .ok (.if_icmp .ne 10, 3) from by decide +kernel) (i_ne x y) rfl
theorem m17_5 : M17 5 [.val (.ref r), l1, l2] st H Q = M17 6 [.val (.ref r), l1, l2] (.ref r :: st) H Q := w_x (show decode kb17 5 = .ok (.aload_n 0, 1) from by decide +kernel) rfl
theorem m17_6 : M17 6 ls (.ref b :: st) (put b pre s A post) Q = M17 9 ls (.ref (b + 7) :: st) (put b pre s A post) Q := w_get (show decode kb17 6 = .ok (.getfield 28, 3) from by decide +kernel) gf_28 put_o rfl
theorem m17_9 : M17 9 [l0, .val (.int v), l2] st H Q = M17 10 [l0, .val (.int v), l2] (.int v :: st) H Q := w_x (show decode kb17 9 = .ok (.iload_n 1, 1) from by decide +kernel) rfl
theorem m17_10  : M17 10 ls (.int j :: .ref (b + 7) :: st) (put b pre s A post) Q = (inB j (A 6) ∧ M17 11 ls (.int (getA (A 6) j) :: st) (put b pre s A post) Q) := w_ild (show decode kb17 10 = .ok (.iaload, 1) from by decide +kernel) rfl put_a6
theorem m17_11 : M17 11 ls (.int z :: st) H Q = Q (some (.int z)) H := w_iret (show decode kb17 11 = .ok (.ireturn, 1) from by decide +kernel) rfl
theorem m17_12 : M17 12 [.val (.ref r), l1, l2] st H Q = M17 13 [.val (.ref r), l1, l2] (.ref r :: st) H Q := w_x (show decode kb17 12 = .ok (.aload_n 0, 1) from by decide +kernel) rfl
theorem m17_13 : M17 13 ls (.ref b :: st) (put b pre s A post) Q = M17 16 ls (.ref (b + 6) :: st) (put b pre s A post) Q := w_get (show decode kb17 13 = .ok (.getfield 25, 3) from by decide +kernel) gf_25 put_o rfl
theorem m17_16 : M17 16 [l0, .val (.int v), l2] st H Q = M17 17 [l0, .val (.int v), l2] (.int v :: st) H Q := w_x (show decode kb17 16 = .ok (.iload_n 1, 1) from by decide +kernel) rfl
theorem m17_17  : M17 17 ls (.int j :: .ref (b + 6) :: st) (put b pre s A post) Q = (inB j (A 5) ∧ M17 18 ls (.int (getA (A 5) j) :: st) (put b pre s A post) Q) := w_ild (show decode kb17 17 = .ok (.iaload, 1) from by decide +kernel) rfl put_a5
theorem m17_18 : M17 18 ls (.int z :: st) H Q = Q (some (.int z)) H := w_iret (show decode kb17 18 = .ok (.ireturn, 1) from by decide +kernel) rfl
theorem m18_0 : M18 0 ls st H Q = M18 3 ls (.ref H.length :: st) (H ++ [(.object "RetimingEngine", D0)]) Q := (w_new (C := "RetimingEngine") at_0 (by rw [hNew, show rCls tables_1 y18.cls 7 = some "RetimingEngine" from by decide +kernel]; dsimp only; rw [if_pos (by decide +kernel)])).trans (by rw [lay0]; rfl)
theorem m18_3 : M18 3 ls ((.ref r) :: st) H Q = M18 4 ls ((.ref r) :: (.ref r) :: st) H Q := w_x at_3 rfl
theorem cr18_9 : nR tables_1 dn y18 9 = some (y0, prog_1_method_1_code, 1, none, 0, 37) := nR_of (cR_of (by decide +kernel) rc_0 dn_0 dn_18 (sig := ⟨[], none⟩) (by decide +kernel) (by decide +kernel) rfl rfl) rfl (by decide +kernel) rfl
theorem cr18_9_o : oR tables_1 dn y18 9 = none := by decide +kernel
theorem m18_4 (u0 : Nat) : M18 4 ls [.ref r, .ref u0] H Q = M0 0 [.val (.ref r)] [] H (fun v H1 => M18 7 ls (v.toList ++ [.ref u0]) H1 Q) := w_spec (as := []) (rest := [.ref u0]) (a := r) at_4 cr18_9_o cr18_9 rfl (Nat.le_of_ble_eq_true rfl) (by show 1 ≤ 1; omega) rfl
theorem m18_7u : M18 7 [l0, l1, l2, .unset, l4, l5, l6, l7, l8, l9, l10, l11, l12, l13, l14, l15, l16, l17] ((.ref r) :: st) H Q = M18 8 [l0, l1, l2, .val (.ref r), l4, l5, l6, l7, l8, l9, l10, l11, l12, l13, l14, l15, l16, l17] st H Q := w_st (i := 3) (p := Value.isRef) at_7 rfl rfl rfl rfl rfl rfl
theorem m18_8 : M18 8 [l0, l1, l2, .val (.ref r), l4, l5, l6, l7, l8, l9, l10, l11, l12, l13, l14, l15, l16, l17] st H Q = M18 9 [l0, l1, l2, .val (.ref r), l4, l5, l6, l7, l8, l9, l10, l11, l12, l13, l14, l15, l16, l17] (.ref r :: st) H Q := w_x at_8 rfl
theorem m18_9 : M18 9 ls st H Q = M18 10 ls (.int 0 :: st) H Q := w_con at_9 rfl (by decide)
theorem m18_10 : M18 10 ls st H Q = M18 11 ls (.int 1 :: st) H Q := w_con at_10 rfl (by decide)
theorem m18_11 : M18 11 ls st H Q = M18 12 ls (.int 0 :: st) H Q := w_con at_11 rfl (by decide)
theorem cr18_10 : vR tables_1 dn y18 10 = some (false, y1, prog_1_method_2_code, 4, (some .int), 3, 46) := vR_of (cR_of (by decide +kernel) rc_1 dn_1 dn_18 (sig := ⟨[.int, .int, .int], some .int⟩) (by decide +kernel) (by decide +kernel) rfl rfl) (by decide +kernel) (by decide +kernel) (by decide +kernel)
theorem m18_12 (a0 : Int32) (a1 : Int32) (a2 : Int32) : M18 12 ls [.int a2, .int a1, .int a0, .ref b] (put b pre s A post) Q = M1 0 [.val (.ref b), .val (.int a0), .val (.int a1), .val (.int a2)] [] (put b pre s A post) (fun v H1 => M18 15 ls (v.toList ++ []) H1 Q) := w_virt (as := [.int a2, .int a1, .int a0]) (rest := []) (a := b) at_12 cr18_10 put_o rfl rfl (Nat.le_of_ble_eq_true rfl) (by show 4 ≤ 4; omega) rfl
theorem m18_15 : M18 15 ls ((.int v) :: st) H Q = M18 16 ls st H Q := w_x at_15 rfl
theorem m18_16 : M18 16 [l0, l1, l2, .val (.ref r), l4, l5, l6, l7, l8, l9, l10, l11, l12, l13, l14, l15, l16, l17] st H Q = M18 17 [l0, l1, l2, .val (.ref r), l4, l5, l6, l7, l8, l9, l10, l11, l12, l13, l14, l15, l16, l17] (.ref r :: st) H Q := w_x at_16 rfl
theorem m18_17 : M18 17 ls st H Q = M18 18 ls (.int 1 :: st) H Q := w_con at_17 rfl (by decide)
theorem m18_18 : M18 18 ls st H Q = M18 19 ls (.int 2 :: st) H Q := w_con at_18 rfl (by decide)
theorem m18_19 : M18 19 ls st H Q = M18 20 ls (.int 0 :: st) H Q := w_con at_19 rfl (by decide)
theorem m18_20 (a0 : Int32) (a1 : Int32) (a2 : Int32) : M18 20 ls [.int a2, .int a1, .int a0, .ref b] (put b pre s A post) Q = M1 0 [.val (.ref b), .val (.int a0), .val (.int a1), .val (.int a2)] [] (put b pre s A post) (fun v H1 => M18 23 ls (v.toList ++ []) H1 Q) := w_virt (as := [.int a2, .int a1, .int a0]) (rest := []) (a := b) at_20 cr18_10 put_o rfl rfl (Nat.le_of_ble_eq_true rfl) (by show 4 ≤ 4; omega) rfl
theorem m18_23 : M18 23 ls ((.int v) :: st) H Q = M18 24 ls st H Q := w_x at_23 rfl
theorem m18_24 : M18 24 [l0, l1, l2, .val (.ref r), l4, l5, l6, l7, l8, l9, l10, l11, l12, l13, l14, l15, l16, l17] st H Q = M18 25 [l0, l1, l2, .val (.ref r), l4, l5, l6, l7, l8, l9, l10, l11, l12, l13, l14, l15, l16, l17] (.ref r :: st) H Q := w_x at_24 rfl
theorem m18_25 : M18 25 [.val (.int v), l1, l2, l3, l4, l5, l6, l7, l8, l9, l10, l11, l12, l13, l14, l15, l16, l17] st H Q = M18 26 [.val (.int v), l1, l2, l3, l4, l5, l6, l7, l8, l9, l10, l11, l12, l13, l14, l15, l16, l17] (.int v :: st) H Q := w_x at_25 rfl
theorem m18_26 : M18 26 [l0, .val (.int v), l2, l3, l4, l5, l6, l7, l8, l9, l10, l11, l12, l13, l14, l15, l16, l17] st H Q = M18 27 [l0, .val (.int v), l2, l3, l4, l5, l6, l7, l8, l9, l10, l11, l12, l13, l14, l15, l16, l17] (.int v :: st) H Q := w_x at_26 rfl
theorem m18_27 : M18 27 [l0, l1, .val (.int v), l3, l4, l5, l6, l7, l8, l9, l10, l11, l12, l13, l14, l15, l16, l17] st H Q = M18 28 [l0, l1, .val (.int v), l3, l4, l5, l6, l7, l8, l9, l10, l11, l12, l13, l14, l15, l16, l17] (.int v :: st) H Q := w_x at_27 rfl
theorem cr18_14 : vR tables_1 dn y18 14 = some (false, y2, prog_1_method_3_code, 4, (some .int), 3, 46) := vR_of (cR_of (by decide +kernel) rc_2 dn_2 dn_18 (sig := ⟨[.int, .int, .int], some .int⟩) (by decide +kernel) (by decide +kernel) rfl rfl) (by decide +kernel) (by decide +kernel) (by decide +kernel)
theorem m18_28 (a0 : Int32) (a1 : Int32) (a2 : Int32) : M18 28 ls [.int a2, .int a1, .int a0, .ref b] (put b pre s A post) Q = M2 0 [.val (.ref b), .val (.int a0), .val (.int a1), .val (.int a2)] [] (put b pre s A post) (fun v H1 => M18 31 ls (v.toList ++ []) H1 Q) := w_virt (as := [.int a2, .int a1, .int a0]) (rest := []) (a := b) at_28 cr18_14 put_o rfl rfl (Nat.le_of_ble_eq_true rfl) (by show 4 ≤ 4; omega) rfl
theorem m18_31u : M18 31 [l0, l1, l2, l3, .unset, l5, l6, l7, l8, l9, l10, l11, l12, l13, l14, l15, l16, l17] ((.int v) :: st) H Q = M18 33 [l0, l1, l2, l3, .val (.int v), l5, l6, l7, l8, l9, l10, l11, l12, l13, l14, l15, l16, l17] st H Q := w_st (i := 4) (p := isI) at_31 rfl rfl rfl rfl rfl rfl
theorem m18_33 : M18 33 [l0, l1, l2, .val (.ref r), l4, l5, l6, l7, l8, l9, l10, l11, l12, l13, l14, l15, l16, l17] st H Q = M18 34 [l0, l1, l2, .val (.ref r), l4, l5, l6, l7, l8, l9, l10, l11, l12, l13, l14, l15, l16, l17] (.ref r :: st) H Q := w_x at_33 rfl
theorem cr18_17 : vR tables_1 dn y18 17 = some (false, y3, prog_1_method_5_code, 1, (some .int), 0, 49) := vR_of (cR_of (by decide +kernel) rc_3 dn_3 dn_18 (sig := ⟨[], some .int⟩) (by decide +kernel) (by decide +kernel) rfl rfl) (by decide +kernel) (by decide +kernel) (by decide +kernel)
theorem m18_34 : M18 34 ls [.ref b] (put b pre s A post) Q = M3 0 [.val (.ref b)] [] (put b pre s A post) (fun v H1 => M18 37 ls (v.toList ++ []) H1 Q) := w_virt (as := []) (rest := []) (a := b) at_34 cr18_17 put_o rfl rfl (Nat.le_of_ble_eq_true rfl) (by show 1 ≤ 1; omega) rfl
theorem m18_37u : M18 37 [l0, l1, l2, l3, l4, .unset, l6, l7, l8, l9, l10, l11, l12, l13, l14, l15, l16, l17] ((.int v) :: st) H Q = M18 39 [l0, l1, l2, l3, l4, .val (.int v), l6, l7, l8, l9, l10, l11, l12, l13, l14, l15, l16, l17] st H Q := w_st (i := 5) (p := isI) at_37 rfl rfl rfl rfl rfl rfl
theorem m18_39 : M18 39 [l0, l1, l2, .val (.ref r), l4, l5, l6, l7, l8, l9, l10, l11, l12, l13, l14, l15, l16, l17] st H Q = M18 40 [l0, l1, l2, .val (.ref r), l4, l5, l6, l7, l8, l9, l10, l11, l12, l13, l14, l15, l16, l17] (.ref r :: st) H Q := w_x at_39 rfl
theorem cr18_21 : vR tables_1 dn y18 21 = some (false, y4, prog_1_method_4_code, 1, (some .int), 0, 0) := vR_of (cR_of (by decide +kernel) rc_4 dn_4 dn_18 (sig := ⟨[], some .int⟩) (by decide +kernel) (by decide +kernel) rfl rfl) (by decide +kernel) (by decide +kernel) (by decide +kernel)
theorem m18_40 : M18 40 ls [.ref b] (put b pre s A post) Q = M4 0 [.val (.ref b)] [] (put b pre s A post) (fun v H1 => M18 43 ls (v.toList ++ []) H1 Q) := w_virt (as := []) (rest := []) (a := b) at_40 cr18_21 put_o rfl rfl (Nat.le_of_ble_eq_true rfl) (by show 1 ≤ 1; omega) rfl
theorem m18_43u : M18 43 [l0, l1, l2, l3, l4, l5, .unset, l7, l8, l9, l10, l11, l12, l13, l14, l15, l16, l17] ((.int v) :: st) H Q = M18 45 [l0, l1, l2, l3, l4, l5, .val (.int v), l7, l8, l9, l10, l11, l12, l13, l14, l15, l16, l17] st H Q := w_st (i := 6) (p := isI) at_43 rfl rfl rfl rfl rfl rfl
theorem m18_45 : M18 45 [l0, l1, l2, .val (.ref r), l4, l5, l6, l7, l8, l9, l10, l11, l12, l13, l14, l15, l16, l17] st H Q = M18 46 [l0, l1, l2, .val (.ref r), l4, l5, l6, l7, l8, l9, l10, l11, l12, l13, l14, l15, l16, l17] (.ref r :: st) H Q := w_x at_45 rfl
theorem m18_46 : M18 46 ls st H Q = M18 47 ls (.int 0 :: st) H Q := w_con at_46 rfl (by decide)
theorem cr18_24 : vR tables_1 dn y18 24 = some (false, y14, prog_1_method_12_code, 2, (some .int), 1, 48) := vR_of (cR_of (by decide +kernel) rc_14 dn_14 dn_18 (sig := ⟨[.int], some .int⟩) (by decide +kernel) (by decide +kernel) rfl rfl) (by decide +kernel) (by decide +kernel) (by decide +kernel)
theorem m18_47 (a0 : Int32) : M18 47 ls [.int a0, .ref b] (put b pre s A post) Q = M14 0 [.val (.ref b), .val (.int a0)] [] (put b pre s A post) (fun v H1 => M18 50 ls (v.toList ++ []) H1 Q) := w_virt (as := [.int a0]) (rest := []) (a := b) at_47 cr18_24 put_o rfl rfl (Nat.le_of_ble_eq_true rfl) (by show 2 ≤ 2; omega) rfl
theorem m18_50u : M18 50 [l0, l1, l2, l3, l4, l5, l6, .unset, l8, l9, l10, l11, l12, l13, l14, l15, l16, l17] ((.int v) :: st) H Q = M18 52 [l0, l1, l2, l3, l4, l5, l6, .val (.int v), l8, l9, l10, l11, l12, l13, l14, l15, l16, l17] st H Q := w_st (i := 7) (p := isI) at_50 rfl rfl rfl rfl rfl rfl
theorem m18_52 : M18 52 [l0, l1, l2, .val (.ref r), l4, l5, l6, l7, l8, l9, l10, l11, l12, l13, l14, l15, l16, l17] st H Q = M18 53 [l0, l1, l2, .val (.ref r), l4, l5, l6, l7, l8, l9, l10, l11, l12, l13, l14, l15, l16, l17] (.ref r :: st) H Q := w_x at_52 rfl
theorem m18_53 : M18 53 ls st H Q = M18 54 ls (.int 1 :: st) H Q := w_con at_53 rfl (by decide)
theorem cr18_28 : vR tables_1 dn y18 28 = some (false, y15, prog_1_method_11_code, 2, (some .int), 1, 48) := vR_of (cR_of (by decide +kernel) rc_15 dn_15 dn_18 (sig := ⟨[.int], some .int⟩) (by decide +kernel) (by decide +kernel) rfl rfl) (by decide +kernel) (by decide +kernel) (by decide +kernel)
theorem m18_54 (a0 : Int32) : M18 54 ls [.int a0, .ref b] (put b pre s A post) Q = M15 0 [.val (.ref b), .val (.int a0)] [] (put b pre s A post) (fun v H1 => M18 57 ls (v.toList ++ []) H1 Q) := w_virt (as := [.int a0]) (rest := []) (a := b) at_54 cr18_28 put_o rfl rfl (Nat.le_of_ble_eq_true rfl) (by show 2 ≤ 2; omega) rfl
theorem m18_57u : M18 57 [l0, l1, l2, l3, l4, l5, l6, l7, .unset, l9, l10, l11, l12, l13, l14, l15, l16, l17] ((.int v) :: st) H Q = M18 59 [l0, l1, l2, l3, l4, l5, l6, l7, .val (.int v), l9, l10, l11, l12, l13, l14, l15, l16, l17] st H Q := w_st (i := 8) (p := isI) at_57 rfl rfl rfl rfl rfl rfl
theorem m18_59 : M18 59 [l0, l1, l2, .val (.ref r), l4, l5, l6, l7, l8, l9, l10, l11, l12, l13, l14, l15, l16, l17] st H Q = M18 60 [l0, l1, l2, .val (.ref r), l4, l5, l6, l7, l8, l9, l10, l11, l12, l13, l14, l15, l16, l17] (.ref r :: st) H Q := w_x at_59 rfl
theorem cr18_31 : vR tables_1 dn y18 31 = some (false, y16, prog_1_method_7_code, 1, (some .int), 0, 49) := vR_of (cR_of (by decide +kernel) rc_16 dn_16 dn_18 (sig := ⟨[], some .int⟩) (by decide +kernel) (by decide +kernel) rfl rfl) (by decide +kernel) (by decide +kernel) (by decide +kernel)
theorem m18_60 : M18 60 ls [.ref b] (put b pre s A post) Q = M16 0 [.val (.ref b)] [] (put b pre s A post) (fun v H1 => M18 63 ls (v.toList ++ []) H1 Q) := w_virt (as := []) (rest := []) (a := b) at_60 cr18_31 put_o rfl rfl (Nat.le_of_ble_eq_true rfl) (by show 1 ≤ 1; omega) rfl
theorem m18_63u : M18 63 [l0, l1, l2, l3, l4, l5, l6, l7, l8, .unset, l10, l11, l12, l13, l14, l15, l16, l17] ((.int v) :: st) H Q = M18 65 [l0, l1, l2, l3, l4, l5, l6, l7, l8, .val (.int v), l10, l11, l12, l13, l14, l15, l16, l17] st H Q := w_st (i := 9) (p := isI) at_63 rfl rfl rfl rfl rfl rfl
theorem m18_65 : M18 65 [.val (.int v), l1, l2, l3, l4, l5, l6, l7, l8, l9, l10, l11, l12, l13, l14, l15, l16, l17] st H Q = M18 66 [.val (.int v), l1, l2, l3, l4, l5, l6, l7, l8, l9, l10, l11, l12, l13, l14, l15, l16, l17] (.int v :: st) H Q := w_x at_65 rfl
theorem m18_66 : M18 66 ls (.int x :: st) H Q = if x < 0 then M18 97 ls st H Q else M18 69 ls st H Q := w_if at_66 (z_lt x) rfl
theorem m18_69 : M18 69 [.val (.int v), l1, l2, l3, l4, l5, l6, l7, l8, l9, l10, l11, l12, l13, l14, l15, l16, l17] st H Q = M18 70 [.val (.int v), l1, l2, l3, l4, l5, l6, l7, l8, l9, l10, l11, l12, l13, l14, l15, l16, l17] (.int v :: st) H Q := w_x at_69 rfl
theorem m18_70 : M18 70 ls st H Q = M18 71 ls (.int 1 :: st) H Q := w_con at_70 rfl (by decide)
theorem m18_71 : M18 71 ls (.int y :: .int x :: st) H Q = if y < x then M18 97 ls st H Q else M18 74 ls st H Q := w_icmp at_71 (i_gt x y) rfl
theorem m18_74 : M18 74 [l0, .val (.int v), l2, l3, l4, l5, l6, l7, l8, l9, l10, l11, l12, l13, l14, l15, l16, l17] st H Q = M18 75 [l0, .val (.int v), l2, l3, l4, l5, l6, l7, l8, l9, l10, l11, l12, l13, l14, l15, l16, l17] (.int v :: st) H Q := w_x at_74 rfl
theorem m18_75 : M18 75 ls (.int x :: st) H Q = if x < 0 then M18 97 ls st H Q else M18 78 ls st H Q := w_if at_75 (z_lt x) rfl
theorem m18_78 : M18 78 [l0, .val (.int v), l2, l3, l4, l5, l6, l7, l8, l9, l10, l11, l12, l13, l14, l15, l16, l17] st H Q = M18 79 [l0, .val (.int v), l2, l3, l4, l5, l6, l7, l8, l9, l10, l11, l12, l13, l14, l15, l16, l17] (.int v :: st) H Q := w_x at_78 rfl
theorem m18_79 : M18 79 ls st H Q = M18 80 ls (.int 1 :: st) H Q := w_con at_79 rfl (by decide)
theorem m18_80 : M18 80 ls (.int y :: .int x :: st) H Q = if y < x then M18 97 ls st H Q else M18 83 ls st H Q := w_icmp at_80 (i_gt x y) rfl
theorem m18_83 : M18 83 [l0, l1, .val (.int v), l3, l4, l5, l6, l7, l8, l9, l10, l11, l12, l13, l14, l15, l16, l17] st H Q = M18 84 [l0, l1, .val (.int v), l3, l4, l5, l6, l7, l8, l9, l10, l11, l12, l13, l14, l15, l16, l17] (.int v :: st) H Q := w_x at_83 rfl
theorem m18_84 : M18 84 ls (.int x :: st) H Q = if x < 0 then M18 97 ls st H Q else M18 87 ls st H Q := w_if at_84 (z_lt x) rfl
theorem m18_87 : M18 87 [l0, l1, .val (.int v), l3, l4, l5, l6, l7, l8, l9, l10, l11, l12, l13, l14, l15, l16, l17] st H Q = M18 88 [l0, l1, .val (.int v), l3, l4, l5, l6, l7, l8, l9, l10, l11, l12, l13, l14, l15, l16, l17] (.int v :: st) H Q := w_x at_87 rfl
theorem m18_88 : M18 88 ls st H Q = M18 90 ls (.int 7 :: st) H Q := w_con at_88 rfl (by decide)
theorem m18_90 : M18 90 ls (.int y :: .int x :: st) H Q = if y < x then M18 97 ls st H Q else M18 93 ls st H Q := w_icmp at_90 (i_gt x y) rfl
theorem m18_93 : M18 93 ls st H Q = M18 94 ls (.int 1 :: st) H Q := w_con at_93 rfl (by decide)
theorem m18_94 : M18 94 ls st H Q = M18 98 ls st H Q := w_x at_94 rfl
theorem m18_97 : M18 97 ls st H Q = M18 98 ls (.int 0 :: st) H Q := w_con at_97 rfl (by decide)
theorem m18_98u : M18 98 [l0, l1, l2, l3, l4, l5, l6, l7, l8, l9, .unset, l11, l12, l13, l14, l15, l16, l17] ((.int v) :: st) H Q = M18 100 [l0, l1, l2, l3, l4, l5, l6, l7, l8, l9, .val (.int v), l11, l12, l13, l14, l15, l16, l17] st H Q := w_st (i := 10) (p := isI) at_98 rfl rfl rfl rfl rfl rfl
theorem m18_100 : M18 100 [l0, l1, l2, l3, l4, l5, l6, l7, l8, l9, .val (.int v), l11, l12, l13, l14, l15, l16, l17] st H Q = M18 102 [l0, l1, l2, l3, l4, l5, l6, l7, l8, l9, .val (.int v), l11, l12, l13, l14, l15, l16, l17] (.int v :: st) H Q := w_x at_100 rfl
theorem m18_102 : M18 102 ls (.int x :: st) H Q = if x = 0 then M18 118 ls st H Q else M18 105 ls st H Q := w_if at_102 (z_eq x) rfl
theorem m18_105 : M18 105 [.val (.int v), l1, l2, l3, l4, l5, l6, l7, l8, l9, l10, l11, l12, l13, l14, l15, l16, l17] st H Q = M18 106 [.val (.int v), l1, l2, l3, l4, l5, l6, l7, l8, l9, l10, l11, l12, l13, l14, l15, l16, l17] (.int v :: st) H Q := w_x at_105 rfl
theorem m18_106 : M18 106 [l0, .val (.int v), l2, l3, l4, l5, l6, l7, l8, l9, l10, l11, l12, l13, l14, l15, l16, l17] st H Q = M18 107 [l0, .val (.int v), l2, l3, l4, l5, l6, l7, l8, l9, l10, l11, l12, l13, l14, l15, l16, l17] (.int v :: st) H Q := w_x at_106 rfl
theorem m18_107 : M18 107 ls (.int y :: .int x :: st) H Q = if x = y then M18 110 ls st H Q else M18 118 ls st H Q := w_icmpN at_107 (i_ne x y) rfl
theorem m18_110 : M18 110 [l0, l1, .val (.int v), l3, l4, l5, l6, l7, l8, l9, l10, l11, l12, l13, l14, l15, l16, l17] st H Q = M18 111 [l0, l1, .val (.int v), l3, l4, l5, l6, l7, l8, l9, l10, l11, l12, l13, l14, l15, l16, l17] (.int v :: st) H Q := w_x at_110 rfl
theorem m18_111 : M18 111 ls (.int x :: st) H Q = if x = 0 then M18 114 ls st H Q else M18 118 ls st H Q := w_ifN at_111 (z_ne x) rfl
theorem m18_114 : M18 114 ls st H Q = M18 115 ls (.int 1 :: st) H Q := w_con at_114 rfl (by decide)
theorem m18_115 : M18 115 ls st H Q = M18 119 ls st H Q := w_x at_115 rfl
theorem m18_118 : M18 118 ls st H Q = M18 119 ls (.int 0 :: st) H Q := w_con at_118 rfl (by decide)
theorem m18_119u : M18 119 [l0, l1, l2, l3, l4, l5, l6, l7, l8, l9, l10, .unset, l12, l13, l14, l15, l16, l17] ((.int v) :: st) H Q = M18 121 [l0, l1, l2, l3, l4, l5, l6, l7, l8, l9, l10, .val (.int v), l12, l13, l14, l15, l16, l17] st H Q := w_st (i := 11) (p := isI) at_119 rfl rfl rfl rfl rfl rfl
theorem m18_121 : M18 121 [l0, l1, l2, l3, l4, l5, l6, l7, l8, l9, .val (.int v), l11, l12, l13, l14, l15, l16, l17] st H Q = M18 123 [l0, l1, l2, l3, l4, l5, l6, l7, l8, l9, .val (.int v), l11, l12, l13, l14, l15, l16, l17] (.int v :: st) H Q := w_x at_121 rfl
theorem m18_123 : M18 123 ls (.int x :: st) H Q = if x = 0 then M18 130 ls st H Q else M18 126 ls st H Q := w_if at_123 (z_eq x) rfl
theorem m18_126 : M18 126 ls st H Q = M18 127 ls (.int 0 :: st) H Q := w_con at_126 rfl (by decide)
theorem m18_127 : M18 127 ls st H Q = M18 132 ls st H Q := w_x at_127 rfl
theorem m18_130 : M18 130 ls st H Q = M18 132 ls (.int (-2) :: st) H Q := w_con at_130 rfl (by decide)
theorem m18_132u : M18 132 [l0, l1, l2, l3, l4, l5, l6, l7, l8, l9, l10, l11, .unset, l13, l14, l15, l16, l17] ((.int v) :: st) H Q = M18 134 [l0, l1, l2, l3, l4, l5, l6, l7, l8, l9, l10, l11, .val (.int v), l13, l14, l15, l16, l17] st H Q := w_st (i := 12) (p := isI) at_132 rfl rfl rfl rfl rfl rfl
theorem m18_134 : M18 134 [l0, l1, l2, l3, l4, l5, l6, l7, l8, l9, .val (.int v), l11, l12, l13, l14, l15, l16, l17] st H Q = M18 136 [l0, l1, l2, l3, l4, l5, l6, l7, l8, l9, .val (.int v), l11, l12, l13, l14, l15, l16, l17] (.int v :: st) H Q := w_x at_134 rfl
theorem m18_136 : M18 136 ls (.int x :: st) H Q = if x = 0 then M18 143 ls st H Q else M18 139 ls st H Q := w_if at_136 (z_eq x) rfl
theorem m18_139 : M18 139 ls st H Q = M18 140 ls (.int 1 :: st) H Q := w_con at_139 rfl (by decide)
theorem m18_140 : M18 140 ls st H Q = M18 144 ls st H Q := w_x at_140 rfl
theorem m18_143 : M18 143 ls st H Q = M18 144 ls (.int 0 :: st) H Q := w_con at_143 rfl (by decide)
theorem m18_144u : M18 144 [l0, l1, l2, l3, l4, l5, l6, l7, l8, l9, l10, l11, l12, .unset, l14, l15, l16, l17] ((.int v) :: st) H Q = M18 146 [l0, l1, l2, l3, l4, l5, l6, l7, l8, l9, l10, l11, l12, .val (.int v), l14, l15, l16, l17] st H Q := w_st (i := 13) (p := isI) at_144 rfl rfl rfl rfl rfl rfl
theorem m18_146 : M18 146 [l0, l1, l2, l3, l4, l5, l6, l7, l8, l9, l10, .val (.int v), l12, l13, l14, l15, l16, l17] st H Q = M18 148 [l0, l1, l2, l3, l4, l5, l6, l7, l8, l9, l10, .val (.int v), l12, l13, l14, l15, l16, l17] (.int v :: st) H Q := w_x at_146 rfl
theorem m18_148 : M18 148 ls (.int x :: st) H Q = if x = 0 then M18 156 ls st H Q else M18 151 ls st H Q := w_if at_148 (z_eq x) rfl
theorem m18_151 : M18 151 ls st H Q = M18 153 ls (.int (-5) :: st) H Q := w_con at_151 rfl (by decide)
theorem m18_153 : M18 153 ls st H Q = M18 157 ls st H Q := w_x at_153 rfl
theorem m18_156 : M18 156 ls st H Q = M18 157 ls (.int 2 :: st) H Q := w_con at_156 rfl (by decide)
theorem m18_157u : M18 157 [l0, l1, l2, l3, l4, l5, l6, l7, l8, l9, l10, l11, l12, l13, .unset, l15, l16, l17] ((.int v) :: st) H Q = M18 159 [l0, l1, l2, l3, l4, l5, l6, l7, l8, l9, l10, l11, l12, l13, .val (.int v), l15, l16, l17] st H Q := w_st (i := 14) (p := isI) at_157 rfl rfl rfl rfl rfl rfl
theorem m18_159 : M18 159 [l0, l1, l2, l3, l4, l5, l6, l7, l8, l9, l10, .val (.int v), l12, l13, l14, l15, l16, l17] st H Q = M18 161 [l0, l1, l2, l3, l4, l5, l6, l7, l8, l9, l10, .val (.int v), l12, l13, l14, l15, l16, l17] (.int v :: st) H Q := w_x at_159 rfl
theorem m18_161 : M18 161 ls (.int x :: st) H Q = if x = 0 then M18 171 ls st H Q else M18 164 ls st H Q := w_if at_161 (z_eq x) rfl
theorem m18_164 : M18 164 ls st H Q = M18 166 ls (.int (-6) :: st) H Q := w_con at_164 rfl (by decide)
theorem m18_166u : M18 166 [l0, l1, l2, l3, l4, l5, l6, l7, l8, l9, l10, l11, l12, l13, l14, .unset, l16, l17] ((.int v) :: st) H Q = M18 168 [l0, l1, l2, l3, l4, l5, l6, l7, l8, l9, l10, l11, l12, l13, l14, .val (.int v), l16, l17] st H Q := w_st (i := 15) (p := isI) at_166 rfl rfl rfl rfl rfl rfl
theorem m18_168 : M18 168 ls st H Q = M18 205 ls st H Q := w_x at_168 rfl
theorem m18_171 : M18 171 [l0, l1, l2, l3, l4, l5, l6, l7, l8, l9, .val (.int v), l11, l12, l13, l14, l15, l16, l17] st H Q = M18 173 [l0, l1, l2, l3, l4, l5, l6, l7, l8, l9, .val (.int v), l11, l12, l13, l14, l15, l16, l17] (.int v :: st) H Q := w_x at_171 rfl
theorem m18_173 : M18 173 ls (.int x :: st) H Q = if x = 0 then M18 176 ls st H Q else M18 183 ls st H Q := w_ifN at_173 (z_ne x) rfl
theorem m18_176 : M18 176 ls st H Q = M18 178 ls (.int (-2) :: st) H Q := w_con at_176 rfl (by decide)
theorem m18_178u : M18 178 [l0, l1, l2, l3, l4, l5, l6, l7, l8, l9, l10, l11, l12, l13, l14, .unset, l16, l17] ((.int v) :: st) H Q = M18 180 [l0, l1, l2, l3, l4, l5, l6, l7, l8, l9, l10, l11, l12, l13, l14, .val (.int v), l16, l17] st H Q := w_st (i := 15) (p := isI) at_178 rfl rfl rfl rfl rfl rfl
theorem m18_180 : M18 180 ls st H Q = M18 205 ls st H Q := w_x at_180 rfl
theorem m18_183 : M18 183 [.val (.int v), l1, l2, l3, l4, l5, l6, l7, l8, l9, l10, l11, l12, l13, l14, l15, l16, l17] st H Q = M18 184 [.val (.int v), l1, l2, l3, l4, l5, l6, l7, l8, l9, l10, l11, l12, l13, l14, l15, l16, l17] (.int v :: st) H Q := w_x at_183 rfl
theorem m18_184 : M18 184 [l0, .val (.int v), l2, l3, l4, l5, l6, l7, l8, l9, l10, l11, l12, l13, l14, l15, l16, l17] st H Q = M18 185 [l0, .val (.int v), l2, l3, l4, l5, l6, l7, l8, l9, l10, l11, l12, l13, l14, l15, l16, l17] (.int v :: st) H Q := w_x at_184 rfl
theorem m18_185 : M18 185 ls (.int y :: .int x :: st) H Q = if x = y then M18 188 ls st H Q else M18 194 ls st H Q := w_icmpN at_185 (i_ne x y) rfl
theorem m18_188 : M18 188 [l0, l1, .val (.int v), l3, l4, l5, l6, l7, l8, l9, l10, l11, l12, l13, l14, l15, l16, l17] st H Q = M18 189 [l0, l1, .val (.int v), l3, l4, l5, l6, l7, l8, l9, l10, l11, l12, l13, l14, l15, l16, l17] (.int v :: st) H Q := w_x at_188 rfl
theorem m18_189u : M18 189 [l0, l1, l2, l3, l4, l5, l6, l7, l8, l9, l10, l11, l12, l13, l14, .unset, l16, l17] ((.int v) :: st) H Q = M18 191 [l0, l1, l2, l3, l4, l5, l6, l7, l8, l9, l10, l11, l12, l13, l14, .val (.int v), l16, l17] st H Q := w_st (i := 15) (p := isI) at_189 rfl rfl rfl rfl rfl rfl
theorem m18_191 : M18 191 ls st H Q = M18 205 ls st H Q := w_x at_191 rfl
theorem m18_194 : M18 194 [l0, l1, .val (.int v), l3, l4, l5, l6, l7, l8, l9, l10, l11, l12, l13, l14, l15, l16, l17] st H Q = M18 195 [l0, l1, .val (.int v), l3, l4, l5, l6, l7, l8, l9, l10, l11, l12, l13, l14, l15, l16, l17] (.int v :: st) H Q := w_x at_194 rfl
theorem m18_195 : M18 195 ls (.int x :: st) H Q = if x = 0 then M18 198 ls st H Q else M18 202 ls st H Q := w_ifN at_195 (z_ne x) rfl
theorem m18_198 : M18 198 ls st H Q = M18 199 ls (.int 1 :: st) H Q := w_con at_198 rfl (by decide)
theorem m18_199 : M18 199 ls st H Q = M18 203 ls st H Q := w_x at_199 rfl
theorem m18_202 : M18 202 [l0, l1, .val (.int v), l3, l4, l5, l6, l7, l8, l9, l10, l11, l12, l13, l14, l15, l16, l17] st H Q = M18 203 [l0, l1, .val (.int v), l3, l4, l5, l6, l7, l8, l9, l10, l11, l12, l13, l14, l15, l16, l17] (.int v :: st) H Q := w_x at_202 rfl
theorem m18_203u : M18 203 [l0, l1, l2, l3, l4, l5, l6, l7, l8, l9, l10, l11, l12, l13, l14, .unset, l16, l17] ((.int v) :: st) H Q = M18 205 [l0, l1, l2, l3, l4, l5, l6, l7, l8, l9, l10, l11, l12, l13, l14, .val (.int v), l16, l17] st H Q := w_st (i := 15) (p := isI) at_203 rfl rfl rfl rfl rfl rfl
theorem m18_205 : M18 205 [l0, l1, l2, l3, l4, l5, l6, l7, l8, l9, l10, .val (.int v), l12, l13, l14, l15, l16, l17] st H Q = M18 207 [l0, l1, l2, l3, l4, l5, l6, l7, l8, l9, l10, .val (.int v), l12, l13, l14, l15, l16, l17] (.int v :: st) H Q := w_x at_205 rfl
theorem m18_207 : M18 207 ls (.int x :: st) H Q = if x = 0 then M18 217 ls st H Q else M18 210 ls st H Q := w_if at_207 (z_eq x) rfl
theorem m18_210 : M18 210 ls st H Q = M18 212 ls (.int (-2147483648) :: st) H Q := w_ldc at_210 (by decide +kernel)
theorem m18_212u : M18 212 [l0, l1, l2, l3, l4, l5, l6, l7, l8, l9, l10, l11, l12, l13, l14, l15, .unset, l17] ((.int v) :: st) H Q = M18 214 [l0, l1, l2, l3, l4, l5, l6, l7, l8, l9, l10, l11, l12, l13, l14, l15, .val (.int v), l17] st H Q := w_st (i := 16) (p := isI) at_212 rfl rfl rfl rfl rfl rfl
theorem m18_214 : M18 214 ls st H Q = M18 268 ls st H Q := w_x at_214 rfl
theorem m18_217 : M18 217 [l0, l1, l2, l3, l4, l5, l6, l7, l8, l9, .val (.int v), l11, l12, l13, l14, l15, l16, l17] st H Q = M18 219 [l0, l1, l2, l3, l4, l5, l6, l7, l8, l9, .val (.int v), l11, l12, l13, l14, l15, l16, l17] (.int v :: st) H Q := w_x at_217 rfl
theorem m18_219 : M18 219 ls (.int x :: st) H Q = if x = 0 then M18 241 ls st H Q else M18 222 ls st H Q := w_if at_219 (z_eq x) rfl
theorem m18_222 : M18 222 [l0, l1, .val (.int v), l3, l4, l5, l6, l7, l8, l9, l10, l11, l12, l13, l14, l15, l16, l17] st H Q = M18 223 [l0, l1, .val (.int v), l3, l4, l5, l6, l7, l8, l9, l10, l11, l12, l13, l14, l15, l16, l17] (.int v :: st) H Q := w_x at_222 rfl
theorem m18_223 : M18 223 ls (.int x :: st) H Q = if x = 0 then M18 226 ls st H Q else M18 241 ls st H Q := w_ifN at_223 (z_ne x) rfl
theorem m18_226 : M18 226 [.val (.int v), l1, l2, l3, l4, l5, l6, l7, l8, l9, l10, l11, l12, l13, l14, l15, l16, l17] st H Q = M18 227 [.val (.int v), l1, l2, l3, l4, l5, l6, l7, l8, l9, l10, l11, l12, l13, l14, l15, l16, l17] (.int v :: st) H Q := w_x at_226 rfl
theorem m18_227 : M18 227 ls (.int x :: st) H Q = if x = 0 then M18 230 ls st H Q else M18 241 ls st H Q := w_ifN at_227 (z_ne x) rfl
theorem m18_230 : M18 230 [l0, .val (.int v), l2, l3, l4, l5, l6, l7, l8, l9, l10, l11, l12, l13, l14, l15, l16, l17] st H Q = M18 231 [l0, .val (.int v), l2, l3, l4, l5, l6, l7, l8, l9, l10, l11, l12, l13, l14, l15, l16, l17] (.int v :: st) H Q := w_x at_230 rfl
theorem m18_231 : M18 231 ls st H Q = M18 232 ls (.int 1 :: st) H Q := w_con at_231 rfl (by decide)
theorem m18_232 : M18 232 ls (.int y :: .int x :: st) H Q = if x = y then M18 235 ls st H Q else M18 241 ls st H Q := w_icmpN at_232 (i_ne x y) rfl
theorem m18_235 : M18 235 ls st H Q = M18 236 ls (.int 1 :: st) H Q := w_con at_235 rfl (by decide)
theorem m18_236u : M18 236 [l0, l1, l2, l3, l4, l5, l6, l7, l8, l9, l10, l11, l12, l13, l14, l15, .unset, l17] ((.int v) :: st) H Q = M18 238 [l0, l1, l2, l3, l4, l5, l6, l7, l8, l9, l10, l11, l12, l13, l14, l15, .val (.int v), l17] st H Q := w_st (i := 16) (p := isI) at_236 rfl rfl rfl rfl rfl rfl
theorem m18_238 : M18 238 ls st H Q = M18 268 ls st H Q := w_x at_238 rfl
theorem m18_241 : M18 241 [l0, l1, l2, l3, l4, l5, l6, l7, l8, l9, .val (.int v), l11, l12, l13, l14, l15, l16, l17] st H Q = M18 243 [l0, l1, l2, l3, l4, l5, l6, l7, l8, l9, .val (.int v), l11, l12, l13, l14, l15, l16, l17] (.int v :: st) H Q := w_x at_241 rfl
theorem m18_243 : M18 243 ls (.int x :: st) H Q = if x = 0 then M18 265 ls st H Q else M18 246 ls st H Q := w_if at_243 (z_eq x) rfl
theorem m18_246 : M18 246 [l0, l1, .val (.int v), l3, l4, l5, l6, l7, l8, l9, l10, l11, l12, l13, l14, l15, l16, l17] st H Q = M18 247 [l0, l1, .val (.int v), l3, l4, l5, l6, l7, l8, l9, l10, l11, l12, l13, l14, l15, l16, l17] (.int v :: st) H Q := w_x at_246 rfl
theorem m18_247 : M18 247 ls (.int x :: st) H Q = if x = 0 then M18 250 ls st H Q else M18 265 ls st H Q := w_ifN at_247 (z_ne x) rfl
theorem m18_250 : M18 250 [.val (.int v), l1, l2, l3, l4, l5, l6, l7, l8, l9, l10, l11, l12, l13, l14, l15, l16, l17] st H Q = M18 251 [.val (.int v), l1, l2, l3, l4, l5, l6, l7, l8, l9, l10, l11, l12, l13, l14, l15, l16, l17] (.int v :: st) H Q := w_x at_250 rfl
theorem m18_251 : M18 251 ls st H Q = M18 252 ls (.int 1 :: st) H Q := w_con at_251 rfl (by decide)
theorem m18_252 : M18 252 ls (.int y :: .int x :: st) H Q = if x = y then M18 255 ls st H Q else M18 265 ls st H Q := w_icmpN at_252 (i_ne x y) rfl
theorem m18_255 : M18 255 [l0, .val (.int v), l2, l3, l4, l5, l6, l7, l8, l9, l10, l11, l12, l13, l14, l15, l16, l17] st H Q = M18 256 [l0, .val (.int v), l2, l3, l4, l5, l6, l7, l8, l9, l10, l11, l12, l13, l14, l15, l16, l17] (.int v :: st) H Q := w_x at_255 rfl
theorem m18_256 : M18 256 ls (.int x :: st) H Q = if x = 0 then M18 259 ls st H Q else M18 265 ls st H Q := w_ifN at_256 (z_ne x) rfl
theorem m18_259 : M18 259 ls st H Q = M18 260 ls (.int (-1) :: st) H Q := w_con at_259 rfl (by decide)
theorem m18_260u : M18 260 [l0, l1, l2, l3, l4, l5, l6, l7, l8, l9, l10, l11, l12, l13, l14, l15, .unset, l17] ((.int v) :: st) H Q = M18 262 [l0, l1, l2, l3, l4, l5, l6, l7, l8, l9, l10, l11, l12, l13, l14, l15, .val (.int v), l17] st H Q := w_st (i := 16) (p := isI) at_260 rfl rfl rfl rfl rfl rfl
theorem m18_262 : M18 262 ls st H Q = M18 268 ls st H Q := w_x at_262 rfl
theorem m18_265 : M18 265 ls st H Q = M18 266 ls (.int 0 :: st) H Q := w_con at_265 rfl (by decide)
theorem m18_266u : M18 266 [l0, l1, l2, l3, l4, l5, l6, l7, l8, l9, l10, l11, l12, l13, l14, l15, .unset, l17] ((.int v) :: st) H Q = M18 268 [l0, l1, l2, l3, l4, l5, l6, l7, l8, l9, l10, l11, l12, l13, l14, l15, .val (.int v), l17] st H Q := w_st (i := 16) (p := isI) at_266 rfl rfl rfl rfl rfl rfl
theorem m18_268 : M18 268 [l0, l1, l2, l3, l4, l5, l6, l7, l8, l9, l10, .val (.int v), l12, l13, l14, l15, l16, l17] st H Q = M18 270 [l0, l1, l2, l3, l4, l5, l6, l7, l8, l9, l10, .val (.int v), l12, l13, l14, l15, l16, l17] (.int v :: st) H Q := w_x at_268 rfl
theorem m18_270 : M18 270 ls (.int x :: st) H Q = if x = 0 then M18 278 ls st H Q else M18 273 ls st H Q := w_if at_270 (z_eq x) rfl
theorem m18_273 : M18 273 ls st H Q = M18 275 ls (.int (-6) :: st) H Q := w_con at_273 rfl (by decide)
theorem m18_275 : M18 275 ls st H Q = M18 279 ls st H Q := w_x at_275 rfl
theorem m18_278 : M18 278 ls st H Q = M18 279 ls (.int 2 :: st) H Q := w_con at_278 rfl (by decide)
theorem m18_279u : M18 279 [l0, l1, l2, l3, l4, l5, l6, l7, l8, l9, l10, l11, l12, l13, l14, l15, l16, .unset] ((.int v) :: st) H Q = M18 281 [l0, l1, l2, l3, l4, l5, l6, l7, l8, l9, l10, l11, l12, l13, l14, l15, l16, .val (.int v)] st H Q := w_st (i := 17) (p := isI) at_279 rfl rfl rfl rfl rfl rfl
theorem m18_281 : M18 281 [l0, l1, l2, l3, .val (.int v), l5, l6, l7, l8, l9, l10, l11, l12, l13, l14, l15, l16, l17] st H Q = M18 283 [l0, l1, l2, l3, .val (.int v), l5, l6, l7, l8, l9, l10, l11, l12, l13, l14, l15, l16, l17] (.int v :: st) H Q := w_x at_281 rfl
theorem m18_283 : M18 283 [l0, l1, l2, l3, l4, l5, l6, l7, l8, l9, l10, l11, .val (.int v), l13, l14, l15, l16, l17] st H Q = M18 285 [l0, l1, l2, l3, l4, l5, l6, l7, l8, l9, l10, l11, .val (.int v), l13, l14, l15, l16, l17] (.int v :: st) H Q := w_x at_283 rfl
theorem m18_285 : M18 285 ls (.int y :: .int x :: st) H Q = if x = y then M18 288 ls st H Q else M18 327 ls st H Q := w_icmpN at_285 (i_ne x y) rfl
theorem m18_288 : M18 288 [l0, l1, l2, l3, l4, .val (.int v), l6, l7, l8, l9, l10, l11, l12, l13, l14, l15, l16, l17] st H Q = M18 290 [l0, l1, l2, l3, l4, .val (.int v), l6, l7, l8, l9, l10, l11, l12, l13, l14, l15, l16, l17] (.int v :: st) H Q := w_x at_288 rfl
theorem m18_290 : M18 290 [l0, l1, l2, l3, l4, l5, l6, l7, l8, l9, l10, l11, l12, .val (.int v), l14, l15, l16, l17] st H Q = M18 292 [l0, l1, l2, l3, l4, l5, l6, l7, l8, l9, l10, l11, l12, .val (.int v), l14, l15, l16, l17] (.int v :: st) H Q := w_x at_290 rfl
theorem m18_292 : M18 292 ls (.int y :: .int x :: st) H Q = if x = y then M18 295 ls st H Q else M18 327 ls st H Q := w_icmpN at_292 (i_ne x y) rfl
theorem m18_295 : M18 295 [l0, l1, l2, l3, l4, l5, .val (.int v), l7, l8, l9, l10, l11, l12, l13, l14, l15, l16, l17] st H Q = M18 297 [l0, l1, l2, l3, l4, l5, .val (.int v), l7, l8, l9, l10, l11, l12, l13, l14, l15, l16, l17] (.int v :: st) H Q := w_x at_295 rfl
theorem m18_297 : M18 297 [l0, l1, l2, l3, l4, l5, l6, l7, l8, l9, l10, l11, l12, l13, .val (.int v), l15, l16, l17] st H Q = M18 299 [l0, l1, l2, l3, l4, l5, l6, l7, l8, l9, l10, l11, l12, l13, .val (.int v), l15, l16, l17] (.int v :: st) H Q := w_x at_297 rfl
theorem m18_299 : M18 299 ls (.int y :: .int x :: st) H Q = if x = y then M18 302 ls st H Q else M18 327 ls st H Q := w_icmpN at_299 (i_ne x y) rfl
theorem m18_302 : M18 302 [l0, l1, l2, l3, l4, l5, l6, .val (.int v), l8, l9, l10, l11, l12, l13, l14, l15, l16, l17] st H Q = M18 304 [l0, l1, l2, l3, l4, l5, l6, .val (.int v), l8, l9, l10, l11, l12, l13, l14, l15, l16, l17] (.int v :: st) H Q := w_x at_302 rfl
theorem m18_304 : M18 304 [l0, l1, l2, l3, l4, l5, l6, l7, l8, l9, l10, l11, l12, l13, l14, .val (.int v), l16, l17] st H Q = M18 306 [l0, l1, l2, l3, l4, l5, l6, l7, l8, l9, l10, l11, l12, l13, l14, .val (.int v), l16, l17] (.int v :: st) H Q := w_x at_304 rfl
theorem m18_306 : M18 306 ls (.int y :: .int x :: st) H Q = if x = y then M18 309 ls st H Q else M18 327 ls st H Q := w_icmpN at_306 (i_ne x y) rfl
theorem m18_309 : M18 309 [l0, l1, l2, l3, l4, l5, l6, l7, .val (.int v), l9, l10, l11, l12, l13, l14, l15, l16, l17] st H Q = M18 311 [l0, l1, l2, l3, l4, l5, l6, l7, .val (.int v), l9, l10, l11, l12, l13, l14, l15, l16, l17] (.int v :: st) H Q := w_x at_309 rfl
theorem m18_311 : M18 311 [l0, l1, l2, l3, l4, l5, l6, l7, l8, l9, l10, l11, l12, l13, l14, l15, .val (.int v), l17] st H Q = M18 313 [l0, l1, l2, l3, l4, l5, l6, l7, l8, l9, l10, l11, l12, l13, l14, l15, .val (.int v), l17] (.int v :: st) H Q := w_x at_311 rfl
theorem m18_313 : M18 313 ls (.int y :: .int x :: st) H Q = if x = y then M18 316 ls st H Q else M18 327 ls st H Q := w_icmpN at_313 (i_ne x y) rfl
theorem m18_316 : M18 316 [l0, l1, l2, l3, l4, l5, l6, l7, l8, .val (.int v), l10, l11, l12, l13, l14, l15, l16, l17] st H Q = M18 318 [l0, l1, l2, l3, l4, l5, l6, l7, l8, .val (.int v), l10, l11, l12, l13, l14, l15, l16, l17] (.int v :: st) H Q := w_x at_316 rfl
theorem m18_318 : M18 318 [l0, l1, l2, l3, l4, l5, l6, l7, l8, l9, l10, l11, l12, l13, l14, l15, l16, .val (.int v)] st H Q = M18 320 [l0, l1, l2, l3, l4, l5, l6, l7, l8, l9, l10, l11, l12, l13, l14, l15, l16, .val (.int v)] (.int v :: st) H Q := w_x at_318 rfl
theorem m18_320 : M18 320 ls (.int y :: .int x :: st) H Q = if x = y then M18 323 ls st H Q else M18 327 ls st H Q := w_icmpN at_320 (i_ne x y) rfl
theorem m18_323 : M18 323 ls st H Q = M18 324 ls (.int 1 :: st) H Q := w_con at_323 rfl (by decide)
theorem m18_324 : M18 324 ls st H Q = M18 328 ls st H Q := w_x at_324 rfl
theorem m18_327 : M18 327 ls st H Q = M18 328 ls (.int 0 :: st) H Q := w_con at_327 rfl (by decide)
theorem m18_328 : M18 328 ls (.int z :: st) H Q = Q (some (.int (nar .boolean z))) H := w_iretN at_328 rfl (by simp)
theorem pf0_7 : pfR tables_1 y0.cls y0.name 7 = some ("RetimingEngine", 0, .array .int) := by decide +kernel
theorem m0_4a (hH : H.length = b) {vs : List Value} {r : AHeap} (hj : 0 < vs.length) : M0 4 (.val (.ref b) :: []) [] (H ++ (.object "RetimingEngine", vs) :: r) Q = M0 12 (.val (.ref b) :: []) [] (H ++ (.object "RetimingEngine", vs.set 0 (.ref (b + (r.length + 1)))) :: (r ++ [(.array .int, List.replicate 32 (.int 0))])) Q := w_iarr (n := 32) rfl hH (Nat.zero_le _) (show decode kb0 4 = .ok (.aload_n 0, 1) from by decide +kernel) rfl (show decode kb0 5 = .ok (.bipush 32, 2) from by decide +kernel) (fun _ => rfl) (by decide) (show decode kb0 7 = .ok (.newarray .int, 2) from by decide +kernel) rfl (by decide +kernel) (by decide) (by decide) rfl (show decode kb0 9 = .ok (.putfield 7, 3) from by decide +kernel) pf0_7 hj
theorem pf0_13 : pfR tables_1 y0.cls y0.name 13 = some ("RetimingEngine", 1, .array .int) := by decide +kernel
theorem m0_12a (hH : H.length = b) {vs : List Value} {r : AHeap} (hj : 1 < vs.length) : M0 12 (.val (.ref b) :: []) [] (H ++ (.object "RetimingEngine", vs) :: r) Q = M0 20 (.val (.ref b) :: []) [] (H ++ (.object "RetimingEngine", vs.set 1 (.ref (b + (r.length + 1)))) :: (r ++ [(.array .int, List.replicate 32 (.int 0))])) Q := w_iarr (n := 32) rfl hH (Nat.zero_le _) (show decode kb0 12 = .ok (.aload_n 0, 1) from by decide +kernel) rfl (show decode kb0 13 = .ok (.bipush 32, 2) from by decide +kernel) (fun _ => rfl) (by decide) (show decode kb0 15 = .ok (.newarray .int, 2) from by decide +kernel) rfl (by decide +kernel) (by decide) (by decide) rfl (show decode kb0 17 = .ok (.putfield 13, 3) from by decide +kernel) pf0_13 hj
theorem pf0_16 : pfR tables_1 y0.cls y0.name 16 = some ("RetimingEngine", 2, .array .int) := by decide +kernel
theorem m0_20a (hH : H.length = b) {vs : List Value} {r : AHeap} (hj : 2 < vs.length) : M0 20 (.val (.ref b) :: []) [] (H ++ (.object "RetimingEngine", vs) :: r) Q = M0 28 (.val (.ref b) :: []) [] (H ++ (.object "RetimingEngine", vs.set 2 (.ref (b + (r.length + 1)))) :: (r ++ [(.array .int, List.replicate 32 (.int 0))])) Q := w_iarr (n := 32) rfl hH (Nat.zero_le _) (show decode kb0 20 = .ok (.aload_n 0, 1) from by decide +kernel) rfl (show decode kb0 21 = .ok (.bipush 32, 2) from by decide +kernel) (fun _ => rfl) (by decide) (show decode kb0 23 = .ok (.newarray .int, 2) from by decide +kernel) rfl (by decide +kernel) (by decide) (by decide) rfl (show decode kb0 25 = .ok (.putfield 16, 3) from by decide +kernel) pf0_16 hj
theorem pf0_19 : pfR tables_1 y0.cls y0.name 19 = some ("RetimingEngine", 3, .array .int) := by decide +kernel
theorem m0_28a (hH : H.length = b) {vs : List Value} {r : AHeap} (hj : 3 < vs.length) : M0 28 (.val (.ref b) :: []) [] (H ++ (.object "RetimingEngine", vs) :: r) Q = M0 36 (.val (.ref b) :: []) [] (H ++ (.object "RetimingEngine", vs.set 3 (.ref (b + (r.length + 1)))) :: (r ++ [(.array .int, List.replicate 64 (.int 0))])) Q := w_iarr (n := 64) rfl hH (Nat.zero_le _) (show decode kb0 28 = .ok (.aload_n 0, 1) from by decide +kernel) rfl (show decode kb0 29 = .ok (.bipush 64, 2) from by decide +kernel) (fun _ => rfl) (by decide) (show decode kb0 31 = .ok (.newarray .int, 2) from by decide +kernel) rfl (by decide +kernel) (by decide) (by decide) rfl (show decode kb0 33 = .ok (.putfield 19, 3) from by decide +kernel) pf0_19 hj
theorem pf0_22 : pfR tables_1 y0.cls y0.name 22 = some ("RetimingEngine", 4, .array .int) := by decide +kernel
theorem m0_36a (hH : H.length = b) {vs : List Value} {r : AHeap} (hj : 4 < vs.length) : M0 36 (.val (.ref b) :: []) [] (H ++ (.object "RetimingEngine", vs) :: r) Q = M0 44 (.val (.ref b) :: []) [] (H ++ (.object "RetimingEngine", vs.set 4 (.ref (b + (r.length + 1)))) :: (r ++ [(.array .int, List.replicate 64 (.int 0))])) Q := w_iarr (n := 64) rfl hH (Nat.zero_le _) (show decode kb0 36 = .ok (.aload_n 0, 1) from by decide +kernel) rfl (show decode kb0 37 = .ok (.bipush 64, 2) from by decide +kernel) (fun _ => rfl) (by decide) (show decode kb0 39 = .ok (.newarray .int, 2) from by decide +kernel) rfl (by decide +kernel) (by decide) (by decide) rfl (show decode kb0 41 = .ok (.putfield 22, 3) from by decide +kernel) pf0_22 hj
theorem pf0_25 : pfR tables_1 y0.cls y0.name 25 = some ("RetimingEngine", 5, .array .int) := by decide +kernel
theorem m0_44a (hH : H.length = b) {vs : List Value} {r : AHeap} (hj : 5 < vs.length) : M0 44 (.val (.ref b) :: []) [] (H ++ (.object "RetimingEngine", vs) :: r) Q = M0 52 (.val (.ref b) :: []) [] (H ++ (.object "RetimingEngine", vs.set 5 (.ref (b + (r.length + 1)))) :: (r ++ [(.array .int, List.replicate 64 (.int 0))])) Q := w_iarr (n := 64) rfl hH (Nat.zero_le _) (show decode kb0 44 = .ok (.aload_n 0, 1) from by decide +kernel) rfl (show decode kb0 45 = .ok (.bipush 64, 2) from by decide +kernel) (fun _ => rfl) (by decide) (show decode kb0 47 = .ok (.newarray .int, 2) from by decide +kernel) rfl (by decide +kernel) (by decide) (by decide) rfl (show decode kb0 49 = .ok (.putfield 25, 3) from by decide +kernel) pf0_25 hj
theorem pf0_28 : pfR tables_1 y0.cls y0.name 28 = some ("RetimingEngine", 6, .array .int) := by decide +kernel
theorem m0_52a (hH : H.length = b) {vs : List Value} {r : AHeap} (hj : 6 < vs.length) : M0 52 (.val (.ref b) :: []) [] (H ++ (.object "RetimingEngine", vs) :: r) Q = M0 60 (.val (.ref b) :: []) [] (H ++ (.object "RetimingEngine", vs.set 6 (.ref (b + (r.length + 1)))) :: (r ++ [(.array .int, List.replicate 64 (.int 0))])) Q := w_iarr (n := 64) rfl hH (Nat.zero_le _) (show decode kb0 52 = .ok (.aload_n 0, 1) from by decide +kernel) rfl (show decode kb0 53 = .ok (.bipush 64, 2) from by decide +kernel) (fun _ => rfl) (by decide) (show decode kb0 55 = .ok (.newarray .int, 2) from by decide +kernel) rfl (by decide +kernel) (by decide) (by decide) rfl (show decode kb0 57 = .ok (.putfield 28, 3) from by decide +kernel) pf0_28 hj
theorem pf0_31 : pfR tables_1 y0.cls y0.name 31 = some ("RetimingEngine", 7, .array .int) := by decide +kernel
theorem m0_60a (hH : H.length = b) {vs : List Value} {r : AHeap} (hj : 7 < vs.length) : M0 60 (.val (.ref b) :: []) [] (H ++ (.object "RetimingEngine", vs) :: r) Q = M0 68 (.val (.ref b) :: []) [] (H ++ (.object "RetimingEngine", vs.set 7 (.ref (b + (r.length + 1)))) :: (r ++ [(.array .int, List.replicate 32 (.int 0))])) Q := w_iarr (n := 32) rfl hH (Nat.zero_le _) (show decode kb0 60 = .ok (.aload_n 0, 1) from by decide +kernel) rfl (show decode kb0 61 = .ok (.bipush 32, 2) from by decide +kernel) (fun _ => rfl) (by decide) (show decode kb0 63 = .ok (.newarray .int, 2) from by decide +kernel) rfl (by decide +kernel) (by decide) (by decide) rfl (show decode kb0 65 = .ok (.putfield 31, 3) from by decide +kernel) pf0_31 hj
theorem pf0_34 : pfR tables_1 y0.cls y0.name 34 = some ("RetimingEngine", 8, .array .int) := by decide +kernel
theorem m0_68a (hH : H.length = b) {vs : List Value} {r : AHeap} (hj : 8 < vs.length) : M0 68 (.val (.ref b) :: []) [] (H ++ (.object "RetimingEngine", vs) :: r) Q = M0 76 (.val (.ref b) :: []) [] (H ++ (.object "RetimingEngine", vs.set 8 (.ref (b + (r.length + 1)))) :: (r ++ [(.array .int, List.replicate 64 (.int 0))])) Q := w_iarr (n := 64) rfl hH (Nat.zero_le _) (show decode kb0 68 = .ok (.aload_n 0, 1) from by decide +kernel) rfl (show decode kb0 69 = .ok (.bipush 64, 2) from by decide +kernel) (fun _ => rfl) (by decide) (show decode kb0 71 = .ok (.newarray .int, 2) from by decide +kernel) rfl (by decide +kernel) (by decide) (by decide) rfl (show decode kb0 73 = .ok (.putfield 34, 3) from by decide +kernel) pf0_34 hj
theorem pf0_37 : pfR tables_1 y0.cls y0.name 37 = some ("RetimingEngine", 9, .array .int) := by decide +kernel
theorem m0_76a (hH : H.length = b) {vs : List Value} {r : AHeap} (hj : 9 < vs.length) : M0 76 (.val (.ref b) :: []) [] (H ++ (.object "RetimingEngine", vs) :: r) Q = M0 85 (.val (.ref b) :: []) [] (H ++ (.object "RetimingEngine", vs.set 9 (.ref (b + (r.length + 1)))) :: (r ++ [(.array .int, List.replicate 1024 (.int 0))])) Q := w_iarr (n := 1024) rfl hH (Nat.zero_le _) (show decode kb0 76 = .ok (.aload_n 0, 1) from by decide +kernel) rfl (show decode kb0 77 = .ok (.sipush 1024, 3) from by decide +kernel) (fun _ => rfl) (by decide) (show decode kb0 80 = .ok (.newarray .int, 2) from by decide +kernel) rfl (by decide +kernel) (by decide) (by decide) rfl (show decode kb0 82 = .ok (.putfield 37, 3) from by decide +kernel) pf0_37 hj
theorem pf0_40 : pfR tables_1 y0.cls y0.name 40 = some ("RetimingEngine", 10, .array .int) := by decide +kernel
theorem m0_85a (hH : H.length = b) {vs : List Value} {r : AHeap} (hj : 10 < vs.length) : M0 85 (.val (.ref b) :: []) [] (H ++ (.object "RetimingEngine", vs) :: r) Q = M0 94 (.val (.ref b) :: []) [] (H ++ (.object "RetimingEngine", vs.set 10 (.ref (b + (r.length + 1)))) :: (r ++ [(.array .int, List.replicate 1024 (.int 0))])) Q := w_iarr (n := 1024) rfl hH (Nat.zero_le _) (show decode kb0 85 = .ok (.aload_n 0, 1) from by decide +kernel) rfl (show decode kb0 86 = .ok (.sipush 1024, 3) from by decide +kernel) (fun _ => rfl) (by decide) (show decode kb0 89 = .ok (.newarray .int, 2) from by decide +kernel) rfl (by decide +kernel) (by decide) (by decide) rfl (show decode kb0 91 = .ok (.putfield 40, 3) from by decide +kernel) pf0_40 hj
theorem pf0_43 : pfR tables_1 y0.cls y0.name 43 = some ("RetimingEngine", 11, .array .boolean) := by decide +kernel
theorem m0_94a (hH : H.length = b) {vs : List Value} {r : AHeap} (hj : 11 < vs.length) : M0 94 (.val (.ref b) :: []) [] (H ++ (.object "RetimingEngine", vs) :: r) Q = M0 103 (.val (.ref b) :: []) [] (H ++ (.object "RetimingEngine", vs.set 11 (.ref (b + (r.length + 1)))) :: (r ++ [(.array .boolean, List.replicate 1024 (.int 0))])) Q := w_iarr (n := 1024) rfl hH (Nat.zero_le _) (show decode kb0 94 = .ok (.aload_n 0, 1) from by decide +kernel) rfl (show decode kb0 95 = .ok (.sipush 1024, 3) from by decide +kernel) (fun _ => rfl) (by decide) (show decode kb0 98 = .ok (.newarray .boolean, 2) from by decide +kernel) rfl (by decide +kernel) (by decide) (by decide) rfl (show decode kb0 100 = .ok (.putfield 43, 3) from by decide +kernel) pf0_43 hj
theorem pf0_47 : pfR tables_1 y0.cls y0.name 47 = some ("RetimingEngine", 12, .array .int) := by decide +kernel
theorem m0_103a (hH : H.length = b) {vs : List Value} {r : AHeap} (hj : 12 < vs.length) : M0 103 (.val (.ref b) :: []) [] (H ++ (.object "RetimingEngine", vs) :: r) Q = M0 111 (.val (.ref b) :: []) [] (H ++ (.object "RetimingEngine", vs.set 12 (.ref (b + (r.length + 1)))) :: (r ++ [(.array .int, List.replicate 32 (.int 0))])) Q := w_iarr (n := 32) rfl hH (Nat.zero_le _) (show decode kb0 103 = .ok (.aload_n 0, 1) from by decide +kernel) rfl (show decode kb0 104 = .ok (.bipush 32, 2) from by decide +kernel) (fun _ => rfl) (by decide) (show decode kb0 106 = .ok (.newarray .int, 2) from by decide +kernel) rfl (by decide +kernel) (by decide) (by decide) rfl (show decode kb0 108 = .ok (.putfield 47, 3) from by decide +kernel) pf0_47 hj
theorem pf0_50 : pfR tables_1 y0.cls y0.name 50 = some ("RetimingEngine", 13, .array .int) := by decide +kernel
theorem m0_111a (hH : H.length = b) {vs : List Value} {r : AHeap} (hj : 13 < vs.length) : M0 111 (.val (.ref b) :: []) [] (H ++ (.object "RetimingEngine", vs) :: r) Q = M0 119 (.val (.ref b) :: []) [] (H ++ (.object "RetimingEngine", vs.set 13 (.ref (b + (r.length + 1)))) :: (r ++ [(.array .int, List.replicate 32 (.int 0))])) Q := w_iarr (n := 32) rfl hH (Nat.zero_le _) (show decode kb0 111 = .ok (.aload_n 0, 1) from by decide +kernel) rfl (show decode kb0 112 = .ok (.bipush 32, 2) from by decide +kernel) (fun _ => rfl) (by decide) (show decode kb0 114 = .ok (.newarray .int, 2) from by decide +kernel) rfl (by decide +kernel) (by decide) (by decide) rfl (show decode kb0 116 = .ok (.putfield 50, 3) from by decide +kernel) pf0_50 hj
theorem pf0_53 : pfR tables_1 y0.cls y0.name 53 = some ("RetimingEngine", 14, .array .int) := by decide +kernel
theorem m0_119a (hH : H.length = b) {vs : List Value} {r : AHeap} (hj : 14 < vs.length) : M0 119 (.val (.ref b) :: []) [] (H ++ (.object "RetimingEngine", vs) :: r) Q = M0 127 (.val (.ref b) :: []) [] (H ++ (.object "RetimingEngine", vs.set 14 (.ref (b + (r.length + 1)))) :: (r ++ [(.array .int, List.replicate 32 (.int 0))])) Q := w_iarr (n := 32) rfl hH (Nat.zero_le _) (show decode kb0 119 = .ok (.aload_n 0, 1) from by decide +kernel) rfl (show decode kb0 120 = .ok (.bipush 32, 2) from by decide +kernel) (fun _ => rfl) (by decide) (show decode kb0 122 = .ok (.newarray .int, 2) from by decide +kernel) rfl (by decide +kernel) (by decide) (by decide) rfl (show decode kb0 124 = .ok (.putfield 53, 3) from by decide +kernel) pf0_53 hj
theorem pf0_56 : pfR tables_1 y0.cls y0.name 56 = some ("RetimingEngine", 15, .array .int) := by decide +kernel
theorem m0_127a (hH : H.length = b) {vs : List Value} {r : AHeap} (hj : 15 < vs.length) : M0 127 (.val (.ref b) :: []) [] (H ++ (.object "RetimingEngine", vs) :: r) Q = M0 135 (.val (.ref b) :: []) [] (H ++ (.object "RetimingEngine", vs.set 15 (.ref (b + (r.length + 1)))) :: (r ++ [(.array .int, List.replicate 32 (.int 0))])) Q := w_iarr (n := 32) rfl hH (Nat.zero_le _) (show decode kb0 127 = .ok (.aload_n 0, 1) from by decide +kernel) rfl (show decode kb0 128 = .ok (.bipush 32, 2) from by decide +kernel) (fun _ => rfl) (by decide) (show decode kb0 130 = .ok (.newarray .int, 2) from by decide +kernel) rfl (by decide +kernel) (by decide) (by decide) rfl (show decode kb0 132 = .ok (.putfield 56, 3) from by decide +kernel) pf0_56 hj
theorem pf0_59 : pfR tables_1 y0.cls y0.name 59 = some ("RetimingEngine", 16, .array .int) := by decide +kernel
theorem m0_135a (hH : H.length = b) {vs : List Value} {r : AHeap} (hj : 16 < vs.length) : M0 135 (.val (.ref b) :: []) [] (H ++ (.object "RetimingEngine", vs) :: r) Q = M0 143 (.val (.ref b) :: []) [] (H ++ (.object "RetimingEngine", vs.set 16 (.ref (b + (r.length + 1)))) :: (r ++ [(.array .int, List.replicate 32 (.int 0))])) Q := w_iarr (n := 32) rfl hH (Nat.zero_le _) (show decode kb0 135 = .ok (.aload_n 0, 1) from by decide +kernel) rfl (show decode kb0 136 = .ok (.bipush 32, 2) from by decide +kernel) (fun _ => rfl) (by decide) (show decode kb0 138 = .ok (.newarray .int, 2) from by decide +kernel) rfl (by decide +kernel) (by decide) (by decide) rfl (show decode kb0 140 = .ok (.putfield 59, 3) from by decide +kernel) pf0_59 hj
theorem pf0_62 : pfR tables_1 y0.cls y0.name 62 = some ("RetimingEngine", 17, .array .int) := by decide +kernel
theorem m0_143a (hH : H.length = b) {vs : List Value} {r : AHeap} (hj : 17 < vs.length) : M0 143 (.val (.ref b) :: []) [] (H ++ (.object "RetimingEngine", vs) :: r) Q = M0 152 (.val (.ref b) :: []) [] (H ++ (.object "RetimingEngine", vs.set 17 (.ref (b + (r.length + 1)))) :: (r ++ [(.array .int, List.replicate 1024 (.int 0))])) Q := w_iarr (n := 1024) rfl hH (Nat.zero_le _) (show decode kb0 143 = .ok (.aload_n 0, 1) from by decide +kernel) rfl (show decode kb0 144 = .ok (.sipush 1024, 3) from by decide +kernel) (fun _ => rfl) (by decide) (show decode kb0 147 = .ok (.newarray .int, 2) from by decide +kernel) rfl (by decide +kernel) (by decide) (by decide) rfl (show decode kb0 149 = .ok (.putfield 62, 3) from by decide +kernel) pf0_62 hj
def A0 : Nat → List Int32
  | 0 => List.replicate 32 0
  | 1 => List.replicate 32 0
  | 2 => List.replicate 32 0
  | 3 => List.replicate 64 0
  | 4 => List.replicate 64 0
  | 5 => List.replicate 64 0
  | 6 => List.replicate 64 0
  | 7 => List.replicate 32 0
  | 8 => List.replicate 64 0
  | 9 => List.replicate 1024 0
  | 10 => List.replicate 1024 0
  | 11 => List.replicate 1024 0
  | 12 => List.replicate 32 0
  | 13 => List.replicate 32 0
  | 14 => List.replicate 32 0
  | 15 => List.replicate 32 0
  | 16 => List.replicate 32 0
  | 17 => List.replicate 1024 0
  | _ => []
theorem A0l_0 : (A0 0).length = 32 := List.length_replicate
theorem A0g_0 (j : Int32) : getA (A0 0) j = 0 := getA_rep _ _
theorem A0l_1 : (A0 1).length = 32 := List.length_replicate
theorem A0g_1 (j : Int32) : getA (A0 1) j = 0 := getA_rep _ _
theorem A0l_2 : (A0 2).length = 32 := List.length_replicate
theorem A0g_2 (j : Int32) : getA (A0 2) j = 0 := getA_rep _ _
theorem A0l_3 : (A0 3).length = 64 := List.length_replicate
theorem A0g_3 (j : Int32) : getA (A0 3) j = 0 := getA_rep _ _
theorem A0l_4 : (A0 4).length = 64 := List.length_replicate
theorem A0g_4 (j : Int32) : getA (A0 4) j = 0 := getA_rep _ _
theorem A0l_5 : (A0 5).length = 64 := List.length_replicate
theorem A0g_5 (j : Int32) : getA (A0 5) j = 0 := getA_rep _ _
theorem A0l_6 : (A0 6).length = 64 := List.length_replicate
theorem A0g_6 (j : Int32) : getA (A0 6) j = 0 := getA_rep _ _
theorem A0l_7 : (A0 7).length = 32 := List.length_replicate
theorem A0g_7 (j : Int32) : getA (A0 7) j = 0 := getA_rep _ _
theorem A0l_8 : (A0 8).length = 64 := List.length_replicate
theorem A0g_8 (j : Int32) : getA (A0 8) j = 0 := getA_rep _ _
theorem A0l_9 : (A0 9).length = 1024 := List.length_replicate
theorem A0g_9 (j : Int32) : getA (A0 9) j = 0 := getA_rep _ _
theorem A0l_10 : (A0 10).length = 1024 := List.length_replicate
theorem A0g_10 (j : Int32) : getA (A0 10) j = 0 := getA_rep _ _
theorem A0l_11 : (A0 11).length = 1024 := List.length_replicate
theorem A0g_11 (j : Int32) : getA (A0 11) j = 0 := getA_rep _ _
theorem A0l_12 : (A0 12).length = 32 := List.length_replicate
theorem A0g_12 (j : Int32) : getA (A0 12) j = 0 := getA_rep _ _
theorem A0l_13 : (A0 13).length = 32 := List.length_replicate
theorem A0g_13 (j : Int32) : getA (A0 13) j = 0 := getA_rep _ _
theorem A0l_14 : (A0 14).length = 32 := List.length_replicate
theorem A0g_14 (j : Int32) : getA (A0 14) j = 0 := getA_rep _ _
theorem A0l_15 : (A0 15).length = 32 := List.length_replicate
theorem A0g_15 (j : Int32) : getA (A0 15) j = 0 := getA_rep _ _
theorem A0l_16 : (A0 16).length = 32 := List.length_replicate
theorem A0g_16 (j : Int32) : getA (A0 16) j = 0 := getA_rep _ _
theorem A0l_17 : (A0 17).length = 1024 := List.length_replicate
theorem A0g_17 (j : Int32) : getA (A0 17) j = 0 := getA_rep _ _
theorem own_ctor0 (hb : pre.length = b) : M0 0 (.val (.ref b) :: []) [] (pre ++ [(.object "RetimingEngine", D0)]) Q = M0 152 (.val (.ref b) :: []) [] (put b pre (fun _ => 0) A0 []) Q := by
  rw [m0_0, m0_1, m0_4a hb (by (repeat rw [List.length_set]); exact Nat.le_of_ble_eq_true rfl), m0_12a hb (by (repeat rw [List.length_set]); exact Nat.le_of_ble_eq_true rfl), m0_20a hb (by (repeat rw [List.length_set]); exact Nat.le_of_ble_eq_true rfl), m0_28a hb (by (repeat rw [List.length_set]); exact Nat.le_of_ble_eq_true rfl), m0_36a hb (by (repeat rw [List.length_set]); exact Nat.le_of_ble_eq_true rfl), m0_44a hb (by (repeat rw [List.length_set]); exact Nat.le_of_ble_eq_true rfl), m0_52a hb (by (repeat rw [List.length_set]); exact Nat.le_of_ble_eq_true rfl), m0_60a hb (by (repeat rw [List.length_set]); exact Nat.le_of_ble_eq_true rfl), m0_68a hb (by (repeat rw [List.length_set]); exact Nat.le_of_ble_eq_true rfl), m0_76a hb (by (repeat rw [List.length_set]); exact Nat.le_of_ble_eq_true rfl), m0_85a hb (by (repeat rw [List.length_set]); exact Nat.le_of_ble_eq_true rfl), m0_94a hb (by (repeat rw [List.length_set]); exact Nat.le_of_ble_eq_true rfl), m0_103a hb (by (repeat rw [List.length_set]); exact Nat.le_of_ble_eq_true rfl), m0_111a hb (by (repeat rw [List.length_set]); exact Nat.le_of_ble_eq_true rfl), m0_119a hb (by (repeat rw [List.length_set]); exact Nat.le_of_ble_eq_true rfl), m0_127a hb (by (repeat rw [List.length_set]); exact Nat.le_of_ble_eq_true rfl), m0_135a hb (by (repeat rw [List.length_set]); exact Nat.le_of_ble_eq_true rfl), m0_143a hb (by (repeat rw [List.length_set]); exact Nat.le_of_ble_eq_true rfl)]
  simp only [put, pad_eq hb, objv, D0, A0, List.map_replicate, List.set_cons_succ, List.set_cons_zero, List.nil_append, List.cons_append, List.length_cons, List.length_nil, List.append_nil]
end Rules
/- methods: 0=RetimingEngine.<init>()V; 1=RetimingEngine.addVertex(III)I; 2=RetimingEngine.addEdge(III)I; 3=RetimingEngine.edgeCount()I; 4=RetimingEngine.retime()I; 5=RetimingEngine.topo(I)Z; 6=RetimingEngine.period(I)I; 7=RetimingEngine.computePairs()V; 8=RetimingEngine.relaxVia(I)V; 9=RetimingEngine.offer(III)V; 10=RetimingEngine.searchMin()I; 11=RetimingEngine.feasible(I)Z; 12=RetimingEngine.relaxPass(I)Z; 13=RetimingEngine.applyLags()V; 14=RetimingEngine.retimedRegs(I)I; 15=RetimingEngine.lag(I)I; 16=RetimingEngine.minPeriod()I; 17=RetimingEngine.xOf(II)I; 18=RetimingEngineL2.law(III)Z -/
theorem own_2 {x : Int32} (h0 : ¬ x < 0) (h1 : ¬ 1 < x) : x = 0 ∨ x = 1 := by
  have e0 : (0 : Int32).toInt = 0 := rfl
  have e1 : (1 : Int32).toInt = 1 := rfl
  rw [lt_i] at *
  have h : x.toInt = 0 ∨ x.toInt = 1 := by omega
  rcases h with h | h
  · exact Or.inl (Int32.toInt_inj.mp h)
  · exact Or.inr ((Int32.toInt_inj.mp h))
theorem own_8 {x : Int32} (h0 : ¬ x < 0) (h1 : ¬ 7 < x) : x = 0 ∨ x = 1 ∨ x = 2 ∨ x = 3 ∨ x = 4 ∨ x = 5 ∨ x = 6 ∨ x = 7 := by
  have e0 : (0 : Int32).toInt = 0 := rfl
  have e1 : (7 : Int32).toInt = 7 := rfl
  rw [lt_i] at *
  have h : x.toInt = 0 ∨ x.toInt = 1 ∨ x.toInt = 2 ∨ x.toInt = 3 ∨ x.toInt = 4 ∨ x.toInt = 5 ∨ x.toInt = 6 ∨ x.toInt = 7 := by omega
  rcases h with h | h | h | h | h | h | h | h
  · exact Or.inl (Int32.toInt_inj.mp h)
  · exact Or.inr (Or.inl (Int32.toInt_inj.mp h))
  · exact Or.inr (Or.inr (Or.inl (Int32.toInt_inj.mp h)))
  · exact Or.inr (Or.inr (Or.inr (Or.inl (Int32.toInt_inj.mp h))))
  · exact Or.inr (Or.inr (Or.inr (Or.inr (Or.inl (Int32.toInt_inj.mp h)))))
  · exact Or.inr (Or.inr (Or.inr (Or.inr (Or.inr (Or.inl (Int32.toInt_inj.mp h))))))
  · exact Or.inr (Or.inr (Or.inr (Or.inr (Or.inr (Or.inr (Or.inl (Int32.toInt_inj.mp h)))))))
  · exact Or.inr (Or.inr (Or.inr (Or.inr (Or.inr (Or.inr (Or.inr ((Int32.toInt_inj.mp h))))))))
theorem own_nl {x : Int32} (h : 1 < x) : ¬ x < 2 := by
  have e1 : (1 : Int32).toInt = 1 := rfl
  have e2 : (2 : Int32).toInt = 2 := rfl
  rw [lt_i] at *
  omega
theorem own_yl {x : Int32} (h : ¬ 1 < x) : x < 2 := by
  have e1 : (1 : Int32).toInt = 1 := rfl
  have e2 : (2 : Int32).toInt = 2 := rfl
  rw [lt_i] at *
  omega
set_option maxRecDepth 1000000 in
set_option maxHeartbeats 20000000 in
theorem own_law (i0 : Int32) (i1 : Int32) (i2 : Int32) : W tables_1 dn 0 x code ret 0 (entry [.int i0, .int i1, .int i2] maxLocals) [] [] (fun v H1 => v = some (.int 1) ∧ H1.length - ([] : AHeap).length ≤ 48 ∧ tot tables_1 H1 - tot tables_1 [] ≤ 9536) := by
  show M18 0 [.val (.int i0), .val (.int i1), .val (.int i2), .unset, .unset, .unset, .unset, .unset, .unset, .unset, .unset, .unset, .unset, .unset, .unset, .unset, .unset, .unset] [] [] _
  rw [m18_0, m18_3, m18_4, own_ctor0 rfl]
  by_cases b1 : i0 < 0
  · simp [b1, m0_0, m0_1, m0_4, m0_5, m0_12, m0_13, m0_20, m0_21, m0_28, m0_29, m0_36, m0_37, m0_44, m0_45, m0_52, m0_53, m0_60, m0_61, m0_68, m0_69, m0_76, m0_77, m0_85, m0_86, m0_94, m0_95, m0_103, m0_104, m0_111, m0_112, m0_119, m0_120, m0_127, m0_128, m0_135, m0_136, m0_143, m0_144, m0_152, m0_153, m0_154, m0_157, m0_158, m0_159, m0_162, m0_163, m0_164, m0_167, m0_168, m0_169, m0_172, m0_173, m0_174, m0_177, m1_0, m1_1, m1_4, m1_5, m1_6, m1_9, m1_11, m1_12, m1_13, m1_16, m1_17, m1_19, m1_22, m1_24, m1_25, m1_26, m1_29, m1_31, m1_34, m1_36, m1_37, m1_38, m1_41, m1_42, m1_45, m1_46, m1_47, m1_48, m1_51, m1_52, m1_55, m1_56, m1_57, m1_58, m1_61, m1_62, m1_65, m1_66, m1_67, m1_68, m1_69, m1_72, m1_73, m1_74, m1_77, m1_78, m1_79, m1_82, m1_83, m1_84, m1_87, m1_88, m1_91, m1_92, m1_93, m2_0, m2_1, m2_4, m2_5, m2_6, m2_9, m2_12, m2_13, m2_16, m2_17, m2_18, m2_21, m2_24, m2_26, m2_27, m2_28, m2_31, m2_32, m2_34, m2_37, m2_39, m2_40, m2_41, m2_44, m2_46, m2_49, m2_51, m2_52, m2_53, m2_56, m2_57, m2_60, m2_61, m2_62, m2_63, m2_66, m2_67, m2_70, m2_71, m2_72, m2_73, m2_76, m2_77, m2_80, m2_81, m2_82, m2_83, m2_84, m2_87, m2_88, m2_89, m2_92, m2_93, m2_94, m2_97, m2_98, m2_99, m2_102, m2_103, m2_106, m2_107, m2_108, m3_0, m3_1, m3_4, m4_0, m4_1, m4_4, m4_7, m4_8, m4_11, m4_12, m4_13, m4_16, m4_19, m4_21, m4_22, m4_23, m4_24, m4_27, m4_30, m4_32, m4_33, m4_34, m4_35, m4_36, m4_39, m4_42, m4_43, m4_46, m4_47, m4_48, m4_51, m4_54, m4_55, m4_56, m4_59, m4_62, m4_63, m4_64, m4_67, m4_68, m4_69, m4_72, m4_73, m4_74, m4_75, m4_76, m4_79, m4_82, m4_83, m4_84, m4_87, m4_88, m4_91, m5_0, m5_1u, m5_2, m5_3, m5_4, m5_7, m5_10, m5_11, m5_14, m5_15, m5_16, m5_17, m5_20, m5_23, m5_24i, m5_25, m5_26, m5_27, m5_30, m5_33, m5_34, m5_35, m5_36, m5_39, m5_42, m5_43, m5_46, m5_47, m5_50, m5_51, m5_52, m5_53, m5_54, m5_55, m5_56, m5_57, m5_60, m5_63, m5_64i, m5_65, m5_66u, m5_67, m5_68, m5_69, m5_72, m5_75, m5_76, m5_79, m5_80, m5_81, m5_84, m5_85, m5_87, m5_90, m5_91, m5_94, m5_95, m5_96, m5_97, m5_100, m5_103, m5_106, m5_107i, m5_108, m5_109, m5_110, m5_113, m5_114, m5_116, m5_119, m5_120, m5_123, m5_124, m5_125u, m5_125i, m5_125r, m5_127, m5_128u, m5_128i, m5_128r, m5_130, m5_132, m5_133, m5_136, m5_139, m5_140, m5_143, m5_145, m5_146, m5_148, m5_151, m5_152, m5_154, m5_155, m5_158, m5_161, m5_162, m5_165, m5_167, m5_168u, m5_168i, m5_168r, m5_170, m5_171, m5_174, m5_176, m5_177, m5_178, m5_179, m5_180, m5_181, m5_182, m5_185, m5_187, m5_188, m5_191, m5_192, m5_194, m5_197, m5_198, m5_201, m5_202, m5_204, m5_205, m5_208, m5_211, m5_214, m5_217, m5_220, m5_221, m5_222, m5_225, m5_228, m5_229, m5_232, m5_233, m6_0, m6_1u, m6_2, m6_3u, m6_4, m6_5, m6_6, m6_9, m6_12, m6_13, m6_16, m6_17, m6_18u, m6_18i, m6_18r, m6_20, m6_21, m6_24, m6_26, m6_27u, m6_27i, m6_27r, m6_29, m6_30u, m6_30i, m6_30r, m6_32, m6_34, m6_35, m6_38, m6_41, m6_42, m6_45, m6_47, m6_48, m6_50, m6_53, m6_54, m6_56, m6_57, m6_60, m6_63, m6_64, m6_67, m6_68, m6_71, m6_73, m6_74, m6_75, m6_76, m6_79, m6_81, m6_82, m6_83u, m6_83i, m6_83r, m6_85, m6_87, m6_89, m6_92, m6_94i, m6_96, m6_99, m6_102, m6_103, m6_106, m6_108, m6_110, m6_111, m6_113, m6_114, m6_117, m6_119i, m6_120, m6_123, m6_126, m6_127, m7_0, m7_1u, m7_2, m7_3, m7_4, m7_7, m7_10, m7_11u, m7_11i, m7_11r, m7_12, m7_13, m7_14, m7_17, m7_20, m7_21, m7_24, m7_25, m7_27, m7_28, m7_29, m7_30, m7_31, m7_32, m7_35, m7_38, m7_41, m7_44, m7_45i, m7_46, m7_47, m7_48, m7_51, m7_54, m7_55, m7_57, m7_58, m7_59, m7_60u, m7_60i, m7_60r, m7_61, m7_62, m7_65, m7_66, m7_67, m7_68, m7_69, m7_72, m7_73, m7_74, m7_75, m7_76, m7_79, m7_80, m7_81, m7_82, m7_85, m7_88, m7_89i, m7_90, m7_91, m7_92, m7_95, m7_98, m7_99, m7_100, m7_103, m7_104, m7_105, m7_107, m7_108, m7_109, m7_112, m7_113, m7_114, m7_115, m7_116, m7_119, m7_120, m7_121, m7_122, m7_125, m7_126, m7_129, m7_130, m7_131, m7_132, m7_135, m7_138, m7_141, m7_142i, m7_143, m7_144, m7_145, m7_148, m7_151, m7_152, m7_153, m7_156, m7_159, m7_162, m8_0, m8_1u, m8_2, m8_3, m8_4, m8_7, m8_10, m8_11, m8_13, m8_14, m8_15, m8_16u, m8_16i, m8_16r, m8_17, m8_18, m8_21, m8_22, m8_23, m8_26, m8_29, m8_30u, m8_30i, m8_30r, m8_32, m8_34, m8_35, m8_38, m8_41, m8_42, m8_44, m8_45, m8_47, m8_48u, m8_48i, m8_48r, m8_50, m8_51, m8_54, m8_56, m8_57, m8_60, m8_61, m8_62, m8_64, m8_65, m8_67, m8_68, m8_69, m8_72, m8_73, m8_74, m8_75, m8_78, m8_80, m8_81, m8_82, m8_83, m8_86, m8_87, m8_88, m8_89, m8_92, m8_94, m8_95, m8_96, m8_99, m8_102, m8_105, m8_108, m8_111, m9_0, m9_1, m9_4, m9_5, m9_6, m9_9, m9_10, m9_11, m9_14, m9_15, m9_16, m9_19, m9_20, m9_21, m9_24, m9_25, m9_26, m9_29, m9_30, m9_31, m9_34, m9_35, m9_36, m9_39, m9_40, m9_43, m9_44, m9_45, m9_46, m9_47, m9_50, m9_51, m9_52, m9_53, m9_54, m9_57, m9_58, m9_59, m9_60, m10_0, m10_1u, m10_2, m10_3, m10_6u, m10_7, m10_8u, m10_9, m10_10, m10_12, m10_15, m10_16, m10_17, m10_20, m10_21, m10_22, m10_23, m10_24, m10_25, m10_26, m10_27u, m10_27i, m10_27r, m10_29, m10_30, m10_32, m10_35, m10_38, m10_40i, m10_41, m10_44, m10_46, m10_47, m10_48i, m10_49, m10_52, m10_55, m10_56, m11_0, m11_1u, m11_2, m11_3, m11_4, m11_7, m11_10, m11_11, m11_14, m11_15, m11_16, m11_17, m11_20, m11_23, m11_24i, m11_25, m11_26, m11_27, m11_30, m11_31, m11_32, m11_35, m11_36, m11_37, m11_40, m11_43, m11_44, m11_45, m11_48, m11_51, m11_52, m12_0, m12_1u, m12_2, m12_3u, m12_4, m12_5, m12_6, m12_9, m12_12, m12_13, m12_16, m12_17, m12_18u, m12_18i, m12_18r, m12_20, m12_21, m12_24, m12_25, m12_28, m12_29, m12_30, m12_31, m12_32, m12_35, m12_36, m12_37, m12_38u, m12_38i, m12_38r, m12_40, m12_42, m12_43, m12_46, m12_48, m12_49, m12_52, m12_53, m12_56, m12_58, m12_60, m12_61, m12_62i, m12_63, m12_66, m12_69, m12_70i, m12_71, m12_72, m12_73, m12_76, m12_79, m12_80u, m12_80i, m12_80r, m12_82, m12_84, m12_85, m12_88, m12_91, m12_92, m12_94, m12_95, m12_97, m12_98u, m12_98i, m12_98r, m12_100, m12_101, m12_104, m12_106, m12_107, m12_110, m12_111, m12_114, m12_116, m12_117, m12_118, m12_121, m12_123, m12_124, m12_125, m12_126, m12_129, m12_130, m12_133, m12_135, m12_136, m12_137, m12_140, m12_142, m12_143, m12_144, m12_145, m12_146u, m12_146i, m12_146r, m12_148, m12_150, m12_151, m12_154, m12_155, m12_156, m12_159, m12_160, m12_163, m12_164, m12_166, m12_167, m12_168i, m12_169, m12_172, m12_175, m12_178, m12_181, m12_182, m13_0, m13_1u, m13_2, m13_3, m13_4, m13_7, m13_10, m13_11, m13_14, m13_15, m13_16, m13_19, m13_20, m13_21, m13_22, m13_25, m13_26, m13_27, m13_28, m13_29, m13_32, m13_35, m13_36i, m13_37, m13_38, m13_39, m13_42, m13_45, m13_46, m13_49, m13_50, m13_51, m13_54, m13_55, m13_56, m13_57, m13_60, m13_61, m13_64, m13_65, m13_66, m13_67, m13_68, m13_69, m13_72, m13_73, m13_76, m13_77, m13_78, m13_79, m13_80, m13_81, m13_84, m13_87, m14_0, m14_1, m14_4, m14_7, m14_9, m14_10, m14_11, m14_14, m14_15, m14_16, m14_19, m14_22, m14_24, m14_25, m14_26, m14_29, m14_30, m14_31, m15_0, m15_1, m15_4, m15_7, m15_8, m15_11, m15_12, m15_13, m15_16, m15_19, m15_21, m15_22, m15_23, m15_26, m15_27, m15_28, m16_0, m16_1, m16_4, m16_7, m16_9, m16_10, m16_11, m16_14, m17_0, m17_1, m17_2, m17_5, m17_6, m17_9, m17_10, m17_11, m17_12, m17_13, m17_16, m17_17, m17_18, m18_0, m18_3, m18_4, m18_7u, m18_8, m18_9, m18_10, m18_11, m18_12, m18_15, m18_16, m18_17, m18_18, m18_19, m18_20, m18_23, m18_24, m18_25, m18_26, m18_27, m18_28, m18_31u, m18_33, m18_34, m18_37u, m18_39, m18_40, m18_43u, m18_45, m18_46, m18_47, m18_50u, m18_52, m18_53, m18_54, m18_57u, m18_59, m18_60, m18_63u, m18_65, m18_66, m18_69, m18_70, m18_71, m18_74, m18_75, m18_78, m18_79, m18_80, m18_83, m18_84, m18_87, m18_88, m18_90, m18_93, m18_94, m18_97, m18_98u, m18_100, m18_102, m18_105, m18_106, m18_107, m18_110, m18_111, m18_114, m18_115, m18_118, m18_119u, m18_121, m18_123, m18_126, m18_127, m18_130, m18_132u, m18_134, m18_136, m18_139, m18_140, m18_143, m18_144u, m18_146, m18_148, m18_151, m18_153, m18_156, m18_157u, m18_159, m18_161, m18_164, m18_166u, m18_168, m18_171, m18_173, m18_176, m18_178u, m18_180, m18_183, m18_184, m18_185, m18_188, m18_189u, m18_191, m18_194, m18_195, m18_198, m18_199, m18_202, m18_203u, m18_205, m18_207, m18_210, m18_212u, m18_214, m18_217, m18_219, m18_222, m18_223, m18_226, m18_227, m18_230, m18_231, m18_232, m18_235, m18_236u, m18_238, m18_241, m18_243, m18_246, m18_247, m18_250, m18_251, m18_252, m18_255, m18_256, m18_259, m18_260u, m18_262, m18_265, m18_266u, m18_268, m18_270, m18_273, m18_275, m18_278, m18_279u, m18_281, m18_283, m18_285, m18_288, m18_290, m18_292, m18_295, m18_297, m18_299, m18_302, m18_304, m18_306, m18_309, m18_311, m18_313, m18_316, m18_318, m18_320, m18_323, m18_324, m18_327, m18_328, nb0, nb1, ou_a, Option.toList_some, Option.toList_none, List.nil_append, List.cons_append, ou_same, ou_comm, setA_same, setA_comm, getA_set2, setA_len, inB_iff, A0g_0, A0g_1, A0g_2, A0g_3, A0g_4, A0g_5, A0g_6, A0g_7, A0g_8, A0g_9, A0g_10, A0g_11, A0g_12, A0g_13, A0g_14, A0g_15, A0g_16, A0g_17, A0l_0, A0l_1, A0l_2, A0l_3, A0l_4, A0l_5, A0l_6, A0l_7, A0l_8, A0l_9, A0l_10, A0l_11, A0l_12, A0l_13, A0l_14, A0l_15, A0l_16, A0l_17]
    refine ⟨?_, ?_⟩ <;> simp only [ou_a, setA_len, put_len, put_tot, pad_0, tot_nil, List.length_nil, List.length_cons, A0l_0, A0l_1, A0l_2, A0l_3, A0l_4, A0l_5, A0l_6, A0l_7, A0l_8, A0l_9, A0l_10, A0l_11, A0l_12, A0l_13, A0l_14, A0l_15, A0l_16, A0l_17] <;> simp [setA_len, put_len, put_tot, pad_0, tot_nil, List.length_nil, List.length_cons, A0l_0, A0l_1, A0l_2, A0l_3, A0l_4, A0l_5, A0l_6, A0l_7, A0l_8, A0l_9, A0l_10, A0l_11, A0l_12, A0l_13, A0l_14, A0l_15, A0l_16, A0l_17]
  by_cases b2 : 1 < i0
  · simp [b1, b2, own_nl b2, m0_0, m0_1, m0_4, m0_5, m0_12, m0_13, m0_20, m0_21, m0_28, m0_29, m0_36, m0_37, m0_44, m0_45, m0_52, m0_53, m0_60, m0_61, m0_68, m0_69, m0_76, m0_77, m0_85, m0_86, m0_94, m0_95, m0_103, m0_104, m0_111, m0_112, m0_119, m0_120, m0_127, m0_128, m0_135, m0_136, m0_143, m0_144, m0_152, m0_153, m0_154, m0_157, m0_158, m0_159, m0_162, m0_163, m0_164, m0_167, m0_168, m0_169, m0_172, m0_173, m0_174, m0_177, m1_0, m1_1, m1_4, m1_5, m1_6, m1_9, m1_11, m1_12, m1_13, m1_16, m1_17, m1_19, m1_22, m1_24, m1_25, m1_26, m1_29, m1_31, m1_34, m1_36, m1_37, m1_38, m1_41, m1_42, m1_45, m1_46, m1_47, m1_48, m1_51, m1_52, m1_55, m1_56, m1_57, m1_58, m1_61, m1_62, m1_65, m1_66, m1_67, m1_68, m1_69, m1_72, m1_73, m1_74, m1_77, m1_78, m1_79, m1_82, m1_83, m1_84, m1_87, m1_88, m1_91, m1_92, m1_93, m2_0, m2_1, m2_4, m2_5, m2_6, m2_9, m2_12, m2_13, m2_16, m2_17, m2_18, m2_21, m2_24, m2_26, m2_27, m2_28, m2_31, m2_32, m2_34, m2_37, m2_39, m2_40, m2_41, m2_44, m2_46, m2_49, m2_51, m2_52, m2_53, m2_56, m2_57, m2_60, m2_61, m2_62, m2_63, m2_66, m2_67, m2_70, m2_71, m2_72, m2_73, m2_76, m2_77, m2_80, m2_81, m2_82, m2_83, m2_84, m2_87, m2_88, m2_89, m2_92, m2_93, m2_94, m2_97, m2_98, m2_99, m2_102, m2_103, m2_106, m2_107, m2_108, m3_0, m3_1, m3_4, m4_0, m4_1, m4_4, m4_7, m4_8, m4_11, m4_12, m4_13, m4_16, m4_19, m4_21, m4_22, m4_23, m4_24, m4_27, m4_30, m4_32, m4_33, m4_34, m4_35, m4_36, m4_39, m4_42, m4_43, m4_46, m4_47, m4_48, m4_51, m4_54, m4_55, m4_56, m4_59, m4_62, m4_63, m4_64, m4_67, m4_68, m4_69, m4_72, m4_73, m4_74, m4_75, m4_76, m4_79, m4_82, m4_83, m4_84, m4_87, m4_88, m4_91, m5_0, m5_1u, m5_2, m5_3, m5_4, m5_7, m5_10, m5_11, m5_14, m5_15, m5_16, m5_17, m5_20, m5_23, m5_24i, m5_25, m5_26, m5_27, m5_30, m5_33, m5_34, m5_35, m5_36, m5_39, m5_42, m5_43, m5_46, m5_47, m5_50, m5_51, m5_52, m5_53, m5_54, m5_55, m5_56, m5_57, m5_60, m5_63, m5_64i, m5_65, m5_66u, m5_67, m5_68, m5_69, m5_72, m5_75, m5_76, m5_79, m5_80, m5_81, m5_84, m5_85, m5_87, m5_90, m5_91, m5_94, m5_95, m5_96, m5_97, m5_100, m5_103, m5_106, m5_107i, m5_108, m5_109, m5_110, m5_113, m5_114, m5_116, m5_119, m5_120, m5_123, m5_124, m5_125u, m5_125i, m5_125r, m5_127, m5_128u, m5_128i, m5_128r, m5_130, m5_132, m5_133, m5_136, m5_139, m5_140, m5_143, m5_145, m5_146, m5_148, m5_151, m5_152, m5_154, m5_155, m5_158, m5_161, m5_162, m5_165, m5_167, m5_168u, m5_168i, m5_168r, m5_170, m5_171, m5_174, m5_176, m5_177, m5_178, m5_179, m5_180, m5_181, m5_182, m5_185, m5_187, m5_188, m5_191, m5_192, m5_194, m5_197, m5_198, m5_201, m5_202, m5_204, m5_205, m5_208, m5_211, m5_214, m5_217, m5_220, m5_221, m5_222, m5_225, m5_228, m5_229, m5_232, m5_233, m6_0, m6_1u, m6_2, m6_3u, m6_4, m6_5, m6_6, m6_9, m6_12, m6_13, m6_16, m6_17, m6_18u, m6_18i, m6_18r, m6_20, m6_21, m6_24, m6_26, m6_27u, m6_27i, m6_27r, m6_29, m6_30u, m6_30i, m6_30r, m6_32, m6_34, m6_35, m6_38, m6_41, m6_42, m6_45, m6_47, m6_48, m6_50, m6_53, m6_54, m6_56, m6_57, m6_60, m6_63, m6_64, m6_67, m6_68, m6_71, m6_73, m6_74, m6_75, m6_76, m6_79, m6_81, m6_82, m6_83u, m6_83i, m6_83r, m6_85, m6_87, m6_89, m6_92, m6_94i, m6_96, m6_99, m6_102, m6_103, m6_106, m6_108, m6_110, m6_111, m6_113, m6_114, m6_117, m6_119i, m6_120, m6_123, m6_126, m6_127, m7_0, m7_1u, m7_2, m7_3, m7_4, m7_7, m7_10, m7_11u, m7_11i, m7_11r, m7_12, m7_13, m7_14, m7_17, m7_20, m7_21, m7_24, m7_25, m7_27, m7_28, m7_29, m7_30, m7_31, m7_32, m7_35, m7_38, m7_41, m7_44, m7_45i, m7_46, m7_47, m7_48, m7_51, m7_54, m7_55, m7_57, m7_58, m7_59, m7_60u, m7_60i, m7_60r, m7_61, m7_62, m7_65, m7_66, m7_67, m7_68, m7_69, m7_72, m7_73, m7_74, m7_75, m7_76, m7_79, m7_80, m7_81, m7_82, m7_85, m7_88, m7_89i, m7_90, m7_91, m7_92, m7_95, m7_98, m7_99, m7_100, m7_103, m7_104, m7_105, m7_107, m7_108, m7_109, m7_112, m7_113, m7_114, m7_115, m7_116, m7_119, m7_120, m7_121, m7_122, m7_125, m7_126, m7_129, m7_130, m7_131, m7_132, m7_135, m7_138, m7_141, m7_142i, m7_143, m7_144, m7_145, m7_148, m7_151, m7_152, m7_153, m7_156, m7_159, m7_162, m8_0, m8_1u, m8_2, m8_3, m8_4, m8_7, m8_10, m8_11, m8_13, m8_14, m8_15, m8_16u, m8_16i, m8_16r, m8_17, m8_18, m8_21, m8_22, m8_23, m8_26, m8_29, m8_30u, m8_30i, m8_30r, m8_32, m8_34, m8_35, m8_38, m8_41, m8_42, m8_44, m8_45, m8_47, m8_48u, m8_48i, m8_48r, m8_50, m8_51, m8_54, m8_56, m8_57, m8_60, m8_61, m8_62, m8_64, m8_65, m8_67, m8_68, m8_69, m8_72, m8_73, m8_74, m8_75, m8_78, m8_80, m8_81, m8_82, m8_83, m8_86, m8_87, m8_88, m8_89, m8_92, m8_94, m8_95, m8_96, m8_99, m8_102, m8_105, m8_108, m8_111, m9_0, m9_1, m9_4, m9_5, m9_6, m9_9, m9_10, m9_11, m9_14, m9_15, m9_16, m9_19, m9_20, m9_21, m9_24, m9_25, m9_26, m9_29, m9_30, m9_31, m9_34, m9_35, m9_36, m9_39, m9_40, m9_43, m9_44, m9_45, m9_46, m9_47, m9_50, m9_51, m9_52, m9_53, m9_54, m9_57, m9_58, m9_59, m9_60, m10_0, m10_1u, m10_2, m10_3, m10_6u, m10_7, m10_8u, m10_9, m10_10, m10_12, m10_15, m10_16, m10_17, m10_20, m10_21, m10_22, m10_23, m10_24, m10_25, m10_26, m10_27u, m10_27i, m10_27r, m10_29, m10_30, m10_32, m10_35, m10_38, m10_40i, m10_41, m10_44, m10_46, m10_47, m10_48i, m10_49, m10_52, m10_55, m10_56, m11_0, m11_1u, m11_2, m11_3, m11_4, m11_7, m11_10, m11_11, m11_14, m11_15, m11_16, m11_17, m11_20, m11_23, m11_24i, m11_25, m11_26, m11_27, m11_30, m11_31, m11_32, m11_35, m11_36, m11_37, m11_40, m11_43, m11_44, m11_45, m11_48, m11_51, m11_52, m12_0, m12_1u, m12_2, m12_3u, m12_4, m12_5, m12_6, m12_9, m12_12, m12_13, m12_16, m12_17, m12_18u, m12_18i, m12_18r, m12_20, m12_21, m12_24, m12_25, m12_28, m12_29, m12_30, m12_31, m12_32, m12_35, m12_36, m12_37, m12_38u, m12_38i, m12_38r, m12_40, m12_42, m12_43, m12_46, m12_48, m12_49, m12_52, m12_53, m12_56, m12_58, m12_60, m12_61, m12_62i, m12_63, m12_66, m12_69, m12_70i, m12_71, m12_72, m12_73, m12_76, m12_79, m12_80u, m12_80i, m12_80r, m12_82, m12_84, m12_85, m12_88, m12_91, m12_92, m12_94, m12_95, m12_97, m12_98u, m12_98i, m12_98r, m12_100, m12_101, m12_104, m12_106, m12_107, m12_110, m12_111, m12_114, m12_116, m12_117, m12_118, m12_121, m12_123, m12_124, m12_125, m12_126, m12_129, m12_130, m12_133, m12_135, m12_136, m12_137, m12_140, m12_142, m12_143, m12_144, m12_145, m12_146u, m12_146i, m12_146r, m12_148, m12_150, m12_151, m12_154, m12_155, m12_156, m12_159, m12_160, m12_163, m12_164, m12_166, m12_167, m12_168i, m12_169, m12_172, m12_175, m12_178, m12_181, m12_182, m13_0, m13_1u, m13_2, m13_3, m13_4, m13_7, m13_10, m13_11, m13_14, m13_15, m13_16, m13_19, m13_20, m13_21, m13_22, m13_25, m13_26, m13_27, m13_28, m13_29, m13_32, m13_35, m13_36i, m13_37, m13_38, m13_39, m13_42, m13_45, m13_46, m13_49, m13_50, m13_51, m13_54, m13_55, m13_56, m13_57, m13_60, m13_61, m13_64, m13_65, m13_66, m13_67, m13_68, m13_69, m13_72, m13_73, m13_76, m13_77, m13_78, m13_79, m13_80, m13_81, m13_84, m13_87, m14_0, m14_1, m14_4, m14_7, m14_9, m14_10, m14_11, m14_14, m14_15, m14_16, m14_19, m14_22, m14_24, m14_25, m14_26, m14_29, m14_30, m14_31, m15_0, m15_1, m15_4, m15_7, m15_8, m15_11, m15_12, m15_13, m15_16, m15_19, m15_21, m15_22, m15_23, m15_26, m15_27, m15_28, m16_0, m16_1, m16_4, m16_7, m16_9, m16_10, m16_11, m16_14, m17_0, m17_1, m17_2, m17_5, m17_6, m17_9, m17_10, m17_11, m17_12, m17_13, m17_16, m17_17, m17_18, m18_0, m18_3, m18_4, m18_7u, m18_8, m18_9, m18_10, m18_11, m18_12, m18_15, m18_16, m18_17, m18_18, m18_19, m18_20, m18_23, m18_24, m18_25, m18_26, m18_27, m18_28, m18_31u, m18_33, m18_34, m18_37u, m18_39, m18_40, m18_43u, m18_45, m18_46, m18_47, m18_50u, m18_52, m18_53, m18_54, m18_57u, m18_59, m18_60, m18_63u, m18_65, m18_66, m18_69, m18_70, m18_71, m18_74, m18_75, m18_78, m18_79, m18_80, m18_83, m18_84, m18_87, m18_88, m18_90, m18_93, m18_94, m18_97, m18_98u, m18_100, m18_102, m18_105, m18_106, m18_107, m18_110, m18_111, m18_114, m18_115, m18_118, m18_119u, m18_121, m18_123, m18_126, m18_127, m18_130, m18_132u, m18_134, m18_136, m18_139, m18_140, m18_143, m18_144u, m18_146, m18_148, m18_151, m18_153, m18_156, m18_157u, m18_159, m18_161, m18_164, m18_166u, m18_168, m18_171, m18_173, m18_176, m18_178u, m18_180, m18_183, m18_184, m18_185, m18_188, m18_189u, m18_191, m18_194, m18_195, m18_198, m18_199, m18_202, m18_203u, m18_205, m18_207, m18_210, m18_212u, m18_214, m18_217, m18_219, m18_222, m18_223, m18_226, m18_227, m18_230, m18_231, m18_232, m18_235, m18_236u, m18_238, m18_241, m18_243, m18_246, m18_247, m18_250, m18_251, m18_252, m18_255, m18_256, m18_259, m18_260u, m18_262, m18_265, m18_266u, m18_268, m18_270, m18_273, m18_275, m18_278, m18_279u, m18_281, m18_283, m18_285, m18_288, m18_290, m18_292, m18_295, m18_297, m18_299, m18_302, m18_304, m18_306, m18_309, m18_311, m18_313, m18_316, m18_318, m18_320, m18_323, m18_324, m18_327, m18_328, nb0, nb1, ou_a, Option.toList_some, Option.toList_none, List.nil_append, List.cons_append, ou_same, ou_comm, setA_same, setA_comm, getA_set2, setA_len, inB_iff, A0g_0, A0g_1, A0g_2, A0g_3, A0g_4, A0g_5, A0g_6, A0g_7, A0g_8, A0g_9, A0g_10, A0g_11, A0g_12, A0g_13, A0g_14, A0g_15, A0g_16, A0g_17, A0l_0, A0l_1, A0l_2, A0l_3, A0l_4, A0l_5, A0l_6, A0l_7, A0l_8, A0l_9, A0l_10, A0l_11, A0l_12, A0l_13, A0l_14, A0l_15, A0l_16, A0l_17]
    refine ⟨?_, ?_⟩ <;> simp only [ou_a, setA_len, put_len, put_tot, pad_0, tot_nil, List.length_nil, List.length_cons, A0l_0, A0l_1, A0l_2, A0l_3, A0l_4, A0l_5, A0l_6, A0l_7, A0l_8, A0l_9, A0l_10, A0l_11, A0l_12, A0l_13, A0l_14, A0l_15, A0l_16, A0l_17] <;> simp [setA_len, put_len, put_tot, pad_0, tot_nil, List.length_nil, List.length_cons, A0l_0, A0l_1, A0l_2, A0l_3, A0l_4, A0l_5, A0l_6, A0l_7, A0l_8, A0l_9, A0l_10, A0l_11, A0l_12, A0l_13, A0l_14, A0l_15, A0l_16, A0l_17]
  have d2 := own_yl b2
  by_cases b3 : i1 < 0
  · simp [b1, b2, d2, b3, m0_0, m0_1, m0_4, m0_5, m0_12, m0_13, m0_20, m0_21, m0_28, m0_29, m0_36, m0_37, m0_44, m0_45, m0_52, m0_53, m0_60, m0_61, m0_68, m0_69, m0_76, m0_77, m0_85, m0_86, m0_94, m0_95, m0_103, m0_104, m0_111, m0_112, m0_119, m0_120, m0_127, m0_128, m0_135, m0_136, m0_143, m0_144, m0_152, m0_153, m0_154, m0_157, m0_158, m0_159, m0_162, m0_163, m0_164, m0_167, m0_168, m0_169, m0_172, m0_173, m0_174, m0_177, m1_0, m1_1, m1_4, m1_5, m1_6, m1_9, m1_11, m1_12, m1_13, m1_16, m1_17, m1_19, m1_22, m1_24, m1_25, m1_26, m1_29, m1_31, m1_34, m1_36, m1_37, m1_38, m1_41, m1_42, m1_45, m1_46, m1_47, m1_48, m1_51, m1_52, m1_55, m1_56, m1_57, m1_58, m1_61, m1_62, m1_65, m1_66, m1_67, m1_68, m1_69, m1_72, m1_73, m1_74, m1_77, m1_78, m1_79, m1_82, m1_83, m1_84, m1_87, m1_88, m1_91, m1_92, m1_93, m2_0, m2_1, m2_4, m2_5, m2_6, m2_9, m2_12, m2_13, m2_16, m2_17, m2_18, m2_21, m2_24, m2_26, m2_27, m2_28, m2_31, m2_32, m2_34, m2_37, m2_39, m2_40, m2_41, m2_44, m2_46, m2_49, m2_51, m2_52, m2_53, m2_56, m2_57, m2_60, m2_61, m2_62, m2_63, m2_66, m2_67, m2_70, m2_71, m2_72, m2_73, m2_76, m2_77, m2_80, m2_81, m2_82, m2_83, m2_84, m2_87, m2_88, m2_89, m2_92, m2_93, m2_94, m2_97, m2_98, m2_99, m2_102, m2_103, m2_106, m2_107, m2_108, m3_0, m3_1, m3_4, m4_0, m4_1, m4_4, m4_7, m4_8, m4_11, m4_12, m4_13, m4_16, m4_19, m4_21, m4_22, m4_23, m4_24, m4_27, m4_30, m4_32, m4_33, m4_34, m4_35, m4_36, m4_39, m4_42, m4_43, m4_46, m4_47, m4_48, m4_51, m4_54, m4_55, m4_56, m4_59, m4_62, m4_63, m4_64, m4_67, m4_68, m4_69, m4_72, m4_73, m4_74, m4_75, m4_76, m4_79, m4_82, m4_83, m4_84, m4_87, m4_88, m4_91, m5_0, m5_1u, m5_2, m5_3, m5_4, m5_7, m5_10, m5_11, m5_14, m5_15, m5_16, m5_17, m5_20, m5_23, m5_24i, m5_25, m5_26, m5_27, m5_30, m5_33, m5_34, m5_35, m5_36, m5_39, m5_42, m5_43, m5_46, m5_47, m5_50, m5_51, m5_52, m5_53, m5_54, m5_55, m5_56, m5_57, m5_60, m5_63, m5_64i, m5_65, m5_66u, m5_67, m5_68, m5_69, m5_72, m5_75, m5_76, m5_79, m5_80, m5_81, m5_84, m5_85, m5_87, m5_90, m5_91, m5_94, m5_95, m5_96, m5_97, m5_100, m5_103, m5_106, m5_107i, m5_108, m5_109, m5_110, m5_113, m5_114, m5_116, m5_119, m5_120, m5_123, m5_124, m5_125u, m5_125i, m5_125r, m5_127, m5_128u, m5_128i, m5_128r, m5_130, m5_132, m5_133, m5_136, m5_139, m5_140, m5_143, m5_145, m5_146, m5_148, m5_151, m5_152, m5_154, m5_155, m5_158, m5_161, m5_162, m5_165, m5_167, m5_168u, m5_168i, m5_168r, m5_170, m5_171, m5_174, m5_176, m5_177, m5_178, m5_179, m5_180, m5_181, m5_182, m5_185, m5_187, m5_188, m5_191, m5_192, m5_194, m5_197, m5_198, m5_201, m5_202, m5_204, m5_205, m5_208, m5_211, m5_214, m5_217, m5_220, m5_221, m5_222, m5_225, m5_228, m5_229, m5_232, m5_233, m6_0, m6_1u, m6_2, m6_3u, m6_4, m6_5, m6_6, m6_9, m6_12, m6_13, m6_16, m6_17, m6_18u, m6_18i, m6_18r, m6_20, m6_21, m6_24, m6_26, m6_27u, m6_27i, m6_27r, m6_29, m6_30u, m6_30i, m6_30r, m6_32, m6_34, m6_35, m6_38, m6_41, m6_42, m6_45, m6_47, m6_48, m6_50, m6_53, m6_54, m6_56, m6_57, m6_60, m6_63, m6_64, m6_67, m6_68, m6_71, m6_73, m6_74, m6_75, m6_76, m6_79, m6_81, m6_82, m6_83u, m6_83i, m6_83r, m6_85, m6_87, m6_89, m6_92, m6_94i, m6_96, m6_99, m6_102, m6_103, m6_106, m6_108, m6_110, m6_111, m6_113, m6_114, m6_117, m6_119i, m6_120, m6_123, m6_126, m6_127, m7_0, m7_1u, m7_2, m7_3, m7_4, m7_7, m7_10, m7_11u, m7_11i, m7_11r, m7_12, m7_13, m7_14, m7_17, m7_20, m7_21, m7_24, m7_25, m7_27, m7_28, m7_29, m7_30, m7_31, m7_32, m7_35, m7_38, m7_41, m7_44, m7_45i, m7_46, m7_47, m7_48, m7_51, m7_54, m7_55, m7_57, m7_58, m7_59, m7_60u, m7_60i, m7_60r, m7_61, m7_62, m7_65, m7_66, m7_67, m7_68, m7_69, m7_72, m7_73, m7_74, m7_75, m7_76, m7_79, m7_80, m7_81, m7_82, m7_85, m7_88, m7_89i, m7_90, m7_91, m7_92, m7_95, m7_98, m7_99, m7_100, m7_103, m7_104, m7_105, m7_107, m7_108, m7_109, m7_112, m7_113, m7_114, m7_115, m7_116, m7_119, m7_120, m7_121, m7_122, m7_125, m7_126, m7_129, m7_130, m7_131, m7_132, m7_135, m7_138, m7_141, m7_142i, m7_143, m7_144, m7_145, m7_148, m7_151, m7_152, m7_153, m7_156, m7_159, m7_162, m8_0, m8_1u, m8_2, m8_3, m8_4, m8_7, m8_10, m8_11, m8_13, m8_14, m8_15, m8_16u, m8_16i, m8_16r, m8_17, m8_18, m8_21, m8_22, m8_23, m8_26, m8_29, m8_30u, m8_30i, m8_30r, m8_32, m8_34, m8_35, m8_38, m8_41, m8_42, m8_44, m8_45, m8_47, m8_48u, m8_48i, m8_48r, m8_50, m8_51, m8_54, m8_56, m8_57, m8_60, m8_61, m8_62, m8_64, m8_65, m8_67, m8_68, m8_69, m8_72, m8_73, m8_74, m8_75, m8_78, m8_80, m8_81, m8_82, m8_83, m8_86, m8_87, m8_88, m8_89, m8_92, m8_94, m8_95, m8_96, m8_99, m8_102, m8_105, m8_108, m8_111, m9_0, m9_1, m9_4, m9_5, m9_6, m9_9, m9_10, m9_11, m9_14, m9_15, m9_16, m9_19, m9_20, m9_21, m9_24, m9_25, m9_26, m9_29, m9_30, m9_31, m9_34, m9_35, m9_36, m9_39, m9_40, m9_43, m9_44, m9_45, m9_46, m9_47, m9_50, m9_51, m9_52, m9_53, m9_54, m9_57, m9_58, m9_59, m9_60, m10_0, m10_1u, m10_2, m10_3, m10_6u, m10_7, m10_8u, m10_9, m10_10, m10_12, m10_15, m10_16, m10_17, m10_20, m10_21, m10_22, m10_23, m10_24, m10_25, m10_26, m10_27u, m10_27i, m10_27r, m10_29, m10_30, m10_32, m10_35, m10_38, m10_40i, m10_41, m10_44, m10_46, m10_47, m10_48i, m10_49, m10_52, m10_55, m10_56, m11_0, m11_1u, m11_2, m11_3, m11_4, m11_7, m11_10, m11_11, m11_14, m11_15, m11_16, m11_17, m11_20, m11_23, m11_24i, m11_25, m11_26, m11_27, m11_30, m11_31, m11_32, m11_35, m11_36, m11_37, m11_40, m11_43, m11_44, m11_45, m11_48, m11_51, m11_52, m12_0, m12_1u, m12_2, m12_3u, m12_4, m12_5, m12_6, m12_9, m12_12, m12_13, m12_16, m12_17, m12_18u, m12_18i, m12_18r, m12_20, m12_21, m12_24, m12_25, m12_28, m12_29, m12_30, m12_31, m12_32, m12_35, m12_36, m12_37, m12_38u, m12_38i, m12_38r, m12_40, m12_42, m12_43, m12_46, m12_48, m12_49, m12_52, m12_53, m12_56, m12_58, m12_60, m12_61, m12_62i, m12_63, m12_66, m12_69, m12_70i, m12_71, m12_72, m12_73, m12_76, m12_79, m12_80u, m12_80i, m12_80r, m12_82, m12_84, m12_85, m12_88, m12_91, m12_92, m12_94, m12_95, m12_97, m12_98u, m12_98i, m12_98r, m12_100, m12_101, m12_104, m12_106, m12_107, m12_110, m12_111, m12_114, m12_116, m12_117, m12_118, m12_121, m12_123, m12_124, m12_125, m12_126, m12_129, m12_130, m12_133, m12_135, m12_136, m12_137, m12_140, m12_142, m12_143, m12_144, m12_145, m12_146u, m12_146i, m12_146r, m12_148, m12_150, m12_151, m12_154, m12_155, m12_156, m12_159, m12_160, m12_163, m12_164, m12_166, m12_167, m12_168i, m12_169, m12_172, m12_175, m12_178, m12_181, m12_182, m13_0, m13_1u, m13_2, m13_3, m13_4, m13_7, m13_10, m13_11, m13_14, m13_15, m13_16, m13_19, m13_20, m13_21, m13_22, m13_25, m13_26, m13_27, m13_28, m13_29, m13_32, m13_35, m13_36i, m13_37, m13_38, m13_39, m13_42, m13_45, m13_46, m13_49, m13_50, m13_51, m13_54, m13_55, m13_56, m13_57, m13_60, m13_61, m13_64, m13_65, m13_66, m13_67, m13_68, m13_69, m13_72, m13_73, m13_76, m13_77, m13_78, m13_79, m13_80, m13_81, m13_84, m13_87, m14_0, m14_1, m14_4, m14_7, m14_9, m14_10, m14_11, m14_14, m14_15, m14_16, m14_19, m14_22, m14_24, m14_25, m14_26, m14_29, m14_30, m14_31, m15_0, m15_1, m15_4, m15_7, m15_8, m15_11, m15_12, m15_13, m15_16, m15_19, m15_21, m15_22, m15_23, m15_26, m15_27, m15_28, m16_0, m16_1, m16_4, m16_7, m16_9, m16_10, m16_11, m16_14, m17_0, m17_1, m17_2, m17_5, m17_6, m17_9, m17_10, m17_11, m17_12, m17_13, m17_16, m17_17, m17_18, m18_0, m18_3, m18_4, m18_7u, m18_8, m18_9, m18_10, m18_11, m18_12, m18_15, m18_16, m18_17, m18_18, m18_19, m18_20, m18_23, m18_24, m18_25, m18_26, m18_27, m18_28, m18_31u, m18_33, m18_34, m18_37u, m18_39, m18_40, m18_43u, m18_45, m18_46, m18_47, m18_50u, m18_52, m18_53, m18_54, m18_57u, m18_59, m18_60, m18_63u, m18_65, m18_66, m18_69, m18_70, m18_71, m18_74, m18_75, m18_78, m18_79, m18_80, m18_83, m18_84, m18_87, m18_88, m18_90, m18_93, m18_94, m18_97, m18_98u, m18_100, m18_102, m18_105, m18_106, m18_107, m18_110, m18_111, m18_114, m18_115, m18_118, m18_119u, m18_121, m18_123, m18_126, m18_127, m18_130, m18_132u, m18_134, m18_136, m18_139, m18_140, m18_143, m18_144u, m18_146, m18_148, m18_151, m18_153, m18_156, m18_157u, m18_159, m18_161, m18_164, m18_166u, m18_168, m18_171, m18_173, m18_176, m18_178u, m18_180, m18_183, m18_184, m18_185, m18_188, m18_189u, m18_191, m18_194, m18_195, m18_198, m18_199, m18_202, m18_203u, m18_205, m18_207, m18_210, m18_212u, m18_214, m18_217, m18_219, m18_222, m18_223, m18_226, m18_227, m18_230, m18_231, m18_232, m18_235, m18_236u, m18_238, m18_241, m18_243, m18_246, m18_247, m18_250, m18_251, m18_252, m18_255, m18_256, m18_259, m18_260u, m18_262, m18_265, m18_266u, m18_268, m18_270, m18_273, m18_275, m18_278, m18_279u, m18_281, m18_283, m18_285, m18_288, m18_290, m18_292, m18_295, m18_297, m18_299, m18_302, m18_304, m18_306, m18_309, m18_311, m18_313, m18_316, m18_318, m18_320, m18_323, m18_324, m18_327, m18_328, nb0, nb1, ou_a, Option.toList_some, Option.toList_none, List.nil_append, List.cons_append, ou_same, ou_comm, setA_same, setA_comm, getA_set2, setA_len, inB_iff, A0g_0, A0g_1, A0g_2, A0g_3, A0g_4, A0g_5, A0g_6, A0g_7, A0g_8, A0g_9, A0g_10, A0g_11, A0g_12, A0g_13, A0g_14, A0g_15, A0g_16, A0g_17, A0l_0, A0l_1, A0l_2, A0l_3, A0l_4, A0l_5, A0l_6, A0l_7, A0l_8, A0l_9, A0l_10, A0l_11, A0l_12, A0l_13, A0l_14, A0l_15, A0l_16, A0l_17]
    refine ⟨?_, ?_⟩ <;> simp only [ou_a, setA_len, put_len, put_tot, pad_0, tot_nil, List.length_nil, List.length_cons, A0l_0, A0l_1, A0l_2, A0l_3, A0l_4, A0l_5, A0l_6, A0l_7, A0l_8, A0l_9, A0l_10, A0l_11, A0l_12, A0l_13, A0l_14, A0l_15, A0l_16, A0l_17] <;> simp [setA_len, put_len, put_tot, pad_0, tot_nil, List.length_nil, List.length_cons, A0l_0, A0l_1, A0l_2, A0l_3, A0l_4, A0l_5, A0l_6, A0l_7, A0l_8, A0l_9, A0l_10, A0l_11, A0l_12, A0l_13, A0l_14, A0l_15, A0l_16, A0l_17]
  by_cases b4 : 1 < i1
  · simp [b1, b2, d2, b3, b4, own_nl b4, m0_0, m0_1, m0_4, m0_5, m0_12, m0_13, m0_20, m0_21, m0_28, m0_29, m0_36, m0_37, m0_44, m0_45, m0_52, m0_53, m0_60, m0_61, m0_68, m0_69, m0_76, m0_77, m0_85, m0_86, m0_94, m0_95, m0_103, m0_104, m0_111, m0_112, m0_119, m0_120, m0_127, m0_128, m0_135, m0_136, m0_143, m0_144, m0_152, m0_153, m0_154, m0_157, m0_158, m0_159, m0_162, m0_163, m0_164, m0_167, m0_168, m0_169, m0_172, m0_173, m0_174, m0_177, m1_0, m1_1, m1_4, m1_5, m1_6, m1_9, m1_11, m1_12, m1_13, m1_16, m1_17, m1_19, m1_22, m1_24, m1_25, m1_26, m1_29, m1_31, m1_34, m1_36, m1_37, m1_38, m1_41, m1_42, m1_45, m1_46, m1_47, m1_48, m1_51, m1_52, m1_55, m1_56, m1_57, m1_58, m1_61, m1_62, m1_65, m1_66, m1_67, m1_68, m1_69, m1_72, m1_73, m1_74, m1_77, m1_78, m1_79, m1_82, m1_83, m1_84, m1_87, m1_88, m1_91, m1_92, m1_93, m2_0, m2_1, m2_4, m2_5, m2_6, m2_9, m2_12, m2_13, m2_16, m2_17, m2_18, m2_21, m2_24, m2_26, m2_27, m2_28, m2_31, m2_32, m2_34, m2_37, m2_39, m2_40, m2_41, m2_44, m2_46, m2_49, m2_51, m2_52, m2_53, m2_56, m2_57, m2_60, m2_61, m2_62, m2_63, m2_66, m2_67, m2_70, m2_71, m2_72, m2_73, m2_76, m2_77, m2_80, m2_81, m2_82, m2_83, m2_84, m2_87, m2_88, m2_89, m2_92, m2_93, m2_94, m2_97, m2_98, m2_99, m2_102, m2_103, m2_106, m2_107, m2_108, m3_0, m3_1, m3_4, m4_0, m4_1, m4_4, m4_7, m4_8, m4_11, m4_12, m4_13, m4_16, m4_19, m4_21, m4_22, m4_23, m4_24, m4_27, m4_30, m4_32, m4_33, m4_34, m4_35, m4_36, m4_39, m4_42, m4_43, m4_46, m4_47, m4_48, m4_51, m4_54, m4_55, m4_56, m4_59, m4_62, m4_63, m4_64, m4_67, m4_68, m4_69, m4_72, m4_73, m4_74, m4_75, m4_76, m4_79, m4_82, m4_83, m4_84, m4_87, m4_88, m4_91, m5_0, m5_1u, m5_2, m5_3, m5_4, m5_7, m5_10, m5_11, m5_14, m5_15, m5_16, m5_17, m5_20, m5_23, m5_24i, m5_25, m5_26, m5_27, m5_30, m5_33, m5_34, m5_35, m5_36, m5_39, m5_42, m5_43, m5_46, m5_47, m5_50, m5_51, m5_52, m5_53, m5_54, m5_55, m5_56, m5_57, m5_60, m5_63, m5_64i, m5_65, m5_66u, m5_67, m5_68, m5_69, m5_72, m5_75, m5_76, m5_79, m5_80, m5_81, m5_84, m5_85, m5_87, m5_90, m5_91, m5_94, m5_95, m5_96, m5_97, m5_100, m5_103, m5_106, m5_107i, m5_108, m5_109, m5_110, m5_113, m5_114, m5_116, m5_119, m5_120, m5_123, m5_124, m5_125u, m5_125i, m5_125r, m5_127, m5_128u, m5_128i, m5_128r, m5_130, m5_132, m5_133, m5_136, m5_139, m5_140, m5_143, m5_145, m5_146, m5_148, m5_151, m5_152, m5_154, m5_155, m5_158, m5_161, m5_162, m5_165, m5_167, m5_168u, m5_168i, m5_168r, m5_170, m5_171, m5_174, m5_176, m5_177, m5_178, m5_179, m5_180, m5_181, m5_182, m5_185, m5_187, m5_188, m5_191, m5_192, m5_194, m5_197, m5_198, m5_201, m5_202, m5_204, m5_205, m5_208, m5_211, m5_214, m5_217, m5_220, m5_221, m5_222, m5_225, m5_228, m5_229, m5_232, m5_233, m6_0, m6_1u, m6_2, m6_3u, m6_4, m6_5, m6_6, m6_9, m6_12, m6_13, m6_16, m6_17, m6_18u, m6_18i, m6_18r, m6_20, m6_21, m6_24, m6_26, m6_27u, m6_27i, m6_27r, m6_29, m6_30u, m6_30i, m6_30r, m6_32, m6_34, m6_35, m6_38, m6_41, m6_42, m6_45, m6_47, m6_48, m6_50, m6_53, m6_54, m6_56, m6_57, m6_60, m6_63, m6_64, m6_67, m6_68, m6_71, m6_73, m6_74, m6_75, m6_76, m6_79, m6_81, m6_82, m6_83u, m6_83i, m6_83r, m6_85, m6_87, m6_89, m6_92, m6_94i, m6_96, m6_99, m6_102, m6_103, m6_106, m6_108, m6_110, m6_111, m6_113, m6_114, m6_117, m6_119i, m6_120, m6_123, m6_126, m6_127, m7_0, m7_1u, m7_2, m7_3, m7_4, m7_7, m7_10, m7_11u, m7_11i, m7_11r, m7_12, m7_13, m7_14, m7_17, m7_20, m7_21, m7_24, m7_25, m7_27, m7_28, m7_29, m7_30, m7_31, m7_32, m7_35, m7_38, m7_41, m7_44, m7_45i, m7_46, m7_47, m7_48, m7_51, m7_54, m7_55, m7_57, m7_58, m7_59, m7_60u, m7_60i, m7_60r, m7_61, m7_62, m7_65, m7_66, m7_67, m7_68, m7_69, m7_72, m7_73, m7_74, m7_75, m7_76, m7_79, m7_80, m7_81, m7_82, m7_85, m7_88, m7_89i, m7_90, m7_91, m7_92, m7_95, m7_98, m7_99, m7_100, m7_103, m7_104, m7_105, m7_107, m7_108, m7_109, m7_112, m7_113, m7_114, m7_115, m7_116, m7_119, m7_120, m7_121, m7_122, m7_125, m7_126, m7_129, m7_130, m7_131, m7_132, m7_135, m7_138, m7_141, m7_142i, m7_143, m7_144, m7_145, m7_148, m7_151, m7_152, m7_153, m7_156, m7_159, m7_162, m8_0, m8_1u, m8_2, m8_3, m8_4, m8_7, m8_10, m8_11, m8_13, m8_14, m8_15, m8_16u, m8_16i, m8_16r, m8_17, m8_18, m8_21, m8_22, m8_23, m8_26, m8_29, m8_30u, m8_30i, m8_30r, m8_32, m8_34, m8_35, m8_38, m8_41, m8_42, m8_44, m8_45, m8_47, m8_48u, m8_48i, m8_48r, m8_50, m8_51, m8_54, m8_56, m8_57, m8_60, m8_61, m8_62, m8_64, m8_65, m8_67, m8_68, m8_69, m8_72, m8_73, m8_74, m8_75, m8_78, m8_80, m8_81, m8_82, m8_83, m8_86, m8_87, m8_88, m8_89, m8_92, m8_94, m8_95, m8_96, m8_99, m8_102, m8_105, m8_108, m8_111, m9_0, m9_1, m9_4, m9_5, m9_6, m9_9, m9_10, m9_11, m9_14, m9_15, m9_16, m9_19, m9_20, m9_21, m9_24, m9_25, m9_26, m9_29, m9_30, m9_31, m9_34, m9_35, m9_36, m9_39, m9_40, m9_43, m9_44, m9_45, m9_46, m9_47, m9_50, m9_51, m9_52, m9_53, m9_54, m9_57, m9_58, m9_59, m9_60, m10_0, m10_1u, m10_2, m10_3, m10_6u, m10_7, m10_8u, m10_9, m10_10, m10_12, m10_15, m10_16, m10_17, m10_20, m10_21, m10_22, m10_23, m10_24, m10_25, m10_26, m10_27u, m10_27i, m10_27r, m10_29, m10_30, m10_32, m10_35, m10_38, m10_40i, m10_41, m10_44, m10_46, m10_47, m10_48i, m10_49, m10_52, m10_55, m10_56, m11_0, m11_1u, m11_2, m11_3, m11_4, m11_7, m11_10, m11_11, m11_14, m11_15, m11_16, m11_17, m11_20, m11_23, m11_24i, m11_25, m11_26, m11_27, m11_30, m11_31, m11_32, m11_35, m11_36, m11_37, m11_40, m11_43, m11_44, m11_45, m11_48, m11_51, m11_52, m12_0, m12_1u, m12_2, m12_3u, m12_4, m12_5, m12_6, m12_9, m12_12, m12_13, m12_16, m12_17, m12_18u, m12_18i, m12_18r, m12_20, m12_21, m12_24, m12_25, m12_28, m12_29, m12_30, m12_31, m12_32, m12_35, m12_36, m12_37, m12_38u, m12_38i, m12_38r, m12_40, m12_42, m12_43, m12_46, m12_48, m12_49, m12_52, m12_53, m12_56, m12_58, m12_60, m12_61, m12_62i, m12_63, m12_66, m12_69, m12_70i, m12_71, m12_72, m12_73, m12_76, m12_79, m12_80u, m12_80i, m12_80r, m12_82, m12_84, m12_85, m12_88, m12_91, m12_92, m12_94, m12_95, m12_97, m12_98u, m12_98i, m12_98r, m12_100, m12_101, m12_104, m12_106, m12_107, m12_110, m12_111, m12_114, m12_116, m12_117, m12_118, m12_121, m12_123, m12_124, m12_125, m12_126, m12_129, m12_130, m12_133, m12_135, m12_136, m12_137, m12_140, m12_142, m12_143, m12_144, m12_145, m12_146u, m12_146i, m12_146r, m12_148, m12_150, m12_151, m12_154, m12_155, m12_156, m12_159, m12_160, m12_163, m12_164, m12_166, m12_167, m12_168i, m12_169, m12_172, m12_175, m12_178, m12_181, m12_182, m13_0, m13_1u, m13_2, m13_3, m13_4, m13_7, m13_10, m13_11, m13_14, m13_15, m13_16, m13_19, m13_20, m13_21, m13_22, m13_25, m13_26, m13_27, m13_28, m13_29, m13_32, m13_35, m13_36i, m13_37, m13_38, m13_39, m13_42, m13_45, m13_46, m13_49, m13_50, m13_51, m13_54, m13_55, m13_56, m13_57, m13_60, m13_61, m13_64, m13_65, m13_66, m13_67, m13_68, m13_69, m13_72, m13_73, m13_76, m13_77, m13_78, m13_79, m13_80, m13_81, m13_84, m13_87, m14_0, m14_1, m14_4, m14_7, m14_9, m14_10, m14_11, m14_14, m14_15, m14_16, m14_19, m14_22, m14_24, m14_25, m14_26, m14_29, m14_30, m14_31, m15_0, m15_1, m15_4, m15_7, m15_8, m15_11, m15_12, m15_13, m15_16, m15_19, m15_21, m15_22, m15_23, m15_26, m15_27, m15_28, m16_0, m16_1, m16_4, m16_7, m16_9, m16_10, m16_11, m16_14, m17_0, m17_1, m17_2, m17_5, m17_6, m17_9, m17_10, m17_11, m17_12, m17_13, m17_16, m17_17, m17_18, m18_0, m18_3, m18_4, m18_7u, m18_8, m18_9, m18_10, m18_11, m18_12, m18_15, m18_16, m18_17, m18_18, m18_19, m18_20, m18_23, m18_24, m18_25, m18_26, m18_27, m18_28, m18_31u, m18_33, m18_34, m18_37u, m18_39, m18_40, m18_43u, m18_45, m18_46, m18_47, m18_50u, m18_52, m18_53, m18_54, m18_57u, m18_59, m18_60, m18_63u, m18_65, m18_66, m18_69, m18_70, m18_71, m18_74, m18_75, m18_78, m18_79, m18_80, m18_83, m18_84, m18_87, m18_88, m18_90, m18_93, m18_94, m18_97, m18_98u, m18_100, m18_102, m18_105, m18_106, m18_107, m18_110, m18_111, m18_114, m18_115, m18_118, m18_119u, m18_121, m18_123, m18_126, m18_127, m18_130, m18_132u, m18_134, m18_136, m18_139, m18_140, m18_143, m18_144u, m18_146, m18_148, m18_151, m18_153, m18_156, m18_157u, m18_159, m18_161, m18_164, m18_166u, m18_168, m18_171, m18_173, m18_176, m18_178u, m18_180, m18_183, m18_184, m18_185, m18_188, m18_189u, m18_191, m18_194, m18_195, m18_198, m18_199, m18_202, m18_203u, m18_205, m18_207, m18_210, m18_212u, m18_214, m18_217, m18_219, m18_222, m18_223, m18_226, m18_227, m18_230, m18_231, m18_232, m18_235, m18_236u, m18_238, m18_241, m18_243, m18_246, m18_247, m18_250, m18_251, m18_252, m18_255, m18_256, m18_259, m18_260u, m18_262, m18_265, m18_266u, m18_268, m18_270, m18_273, m18_275, m18_278, m18_279u, m18_281, m18_283, m18_285, m18_288, m18_290, m18_292, m18_295, m18_297, m18_299, m18_302, m18_304, m18_306, m18_309, m18_311, m18_313, m18_316, m18_318, m18_320, m18_323, m18_324, m18_327, m18_328, nb0, nb1, ou_a, Option.toList_some, Option.toList_none, List.nil_append, List.cons_append, ou_same, ou_comm, setA_same, setA_comm, getA_set2, setA_len, inB_iff, A0g_0, A0g_1, A0g_2, A0g_3, A0g_4, A0g_5, A0g_6, A0g_7, A0g_8, A0g_9, A0g_10, A0g_11, A0g_12, A0g_13, A0g_14, A0g_15, A0g_16, A0g_17, A0l_0, A0l_1, A0l_2, A0l_3, A0l_4, A0l_5, A0l_6, A0l_7, A0l_8, A0l_9, A0l_10, A0l_11, A0l_12, A0l_13, A0l_14, A0l_15, A0l_16, A0l_17]
    refine ⟨?_, ?_⟩ <;> simp only [ou_a, setA_len, put_len, put_tot, pad_0, tot_nil, List.length_nil, List.length_cons, A0l_0, A0l_1, A0l_2, A0l_3, A0l_4, A0l_5, A0l_6, A0l_7, A0l_8, A0l_9, A0l_10, A0l_11, A0l_12, A0l_13, A0l_14, A0l_15, A0l_16, A0l_17] <;> simp [setA_len, put_len, put_tot, pad_0, tot_nil, List.length_nil, List.length_cons, A0l_0, A0l_1, A0l_2, A0l_3, A0l_4, A0l_5, A0l_6, A0l_7, A0l_8, A0l_9, A0l_10, A0l_11, A0l_12, A0l_13, A0l_14, A0l_15, A0l_16, A0l_17]
  have d4 := own_yl b4
  by_cases b5 : i2 < 0
  · simp [b1, b2, d2, b3, b4, d4, b5, m0_0, m0_1, m0_4, m0_5, m0_12, m0_13, m0_20, m0_21, m0_28, m0_29, m0_36, m0_37, m0_44, m0_45, m0_52, m0_53, m0_60, m0_61, m0_68, m0_69, m0_76, m0_77, m0_85, m0_86, m0_94, m0_95, m0_103, m0_104, m0_111, m0_112, m0_119, m0_120, m0_127, m0_128, m0_135, m0_136, m0_143, m0_144, m0_152, m0_153, m0_154, m0_157, m0_158, m0_159, m0_162, m0_163, m0_164, m0_167, m0_168, m0_169, m0_172, m0_173, m0_174, m0_177, m1_0, m1_1, m1_4, m1_5, m1_6, m1_9, m1_11, m1_12, m1_13, m1_16, m1_17, m1_19, m1_22, m1_24, m1_25, m1_26, m1_29, m1_31, m1_34, m1_36, m1_37, m1_38, m1_41, m1_42, m1_45, m1_46, m1_47, m1_48, m1_51, m1_52, m1_55, m1_56, m1_57, m1_58, m1_61, m1_62, m1_65, m1_66, m1_67, m1_68, m1_69, m1_72, m1_73, m1_74, m1_77, m1_78, m1_79, m1_82, m1_83, m1_84, m1_87, m1_88, m1_91, m1_92, m1_93, m2_0, m2_1, m2_4, m2_5, m2_6, m2_9, m2_12, m2_13, m2_16, m2_17, m2_18, m2_21, m2_24, m2_26, m2_27, m2_28, m2_31, m2_32, m2_34, m2_37, m2_39, m2_40, m2_41, m2_44, m2_46, m2_49, m2_51, m2_52, m2_53, m2_56, m2_57, m2_60, m2_61, m2_62, m2_63, m2_66, m2_67, m2_70, m2_71, m2_72, m2_73, m2_76, m2_77, m2_80, m2_81, m2_82, m2_83, m2_84, m2_87, m2_88, m2_89, m2_92, m2_93, m2_94, m2_97, m2_98, m2_99, m2_102, m2_103, m2_106, m2_107, m2_108, m3_0, m3_1, m3_4, m4_0, m4_1, m4_4, m4_7, m4_8, m4_11, m4_12, m4_13, m4_16, m4_19, m4_21, m4_22, m4_23, m4_24, m4_27, m4_30, m4_32, m4_33, m4_34, m4_35, m4_36, m4_39, m4_42, m4_43, m4_46, m4_47, m4_48, m4_51, m4_54, m4_55, m4_56, m4_59, m4_62, m4_63, m4_64, m4_67, m4_68, m4_69, m4_72, m4_73, m4_74, m4_75, m4_76, m4_79, m4_82, m4_83, m4_84, m4_87, m4_88, m4_91, m5_0, m5_1u, m5_2, m5_3, m5_4, m5_7, m5_10, m5_11, m5_14, m5_15, m5_16, m5_17, m5_20, m5_23, m5_24i, m5_25, m5_26, m5_27, m5_30, m5_33, m5_34, m5_35, m5_36, m5_39, m5_42, m5_43, m5_46, m5_47, m5_50, m5_51, m5_52, m5_53, m5_54, m5_55, m5_56, m5_57, m5_60, m5_63, m5_64i, m5_65, m5_66u, m5_67, m5_68, m5_69, m5_72, m5_75, m5_76, m5_79, m5_80, m5_81, m5_84, m5_85, m5_87, m5_90, m5_91, m5_94, m5_95, m5_96, m5_97, m5_100, m5_103, m5_106, m5_107i, m5_108, m5_109, m5_110, m5_113, m5_114, m5_116, m5_119, m5_120, m5_123, m5_124, m5_125u, m5_125i, m5_125r, m5_127, m5_128u, m5_128i, m5_128r, m5_130, m5_132, m5_133, m5_136, m5_139, m5_140, m5_143, m5_145, m5_146, m5_148, m5_151, m5_152, m5_154, m5_155, m5_158, m5_161, m5_162, m5_165, m5_167, m5_168u, m5_168i, m5_168r, m5_170, m5_171, m5_174, m5_176, m5_177, m5_178, m5_179, m5_180, m5_181, m5_182, m5_185, m5_187, m5_188, m5_191, m5_192, m5_194, m5_197, m5_198, m5_201, m5_202, m5_204, m5_205, m5_208, m5_211, m5_214, m5_217, m5_220, m5_221, m5_222, m5_225, m5_228, m5_229, m5_232, m5_233, m6_0, m6_1u, m6_2, m6_3u, m6_4, m6_5, m6_6, m6_9, m6_12, m6_13, m6_16, m6_17, m6_18u, m6_18i, m6_18r, m6_20, m6_21, m6_24, m6_26, m6_27u, m6_27i, m6_27r, m6_29, m6_30u, m6_30i, m6_30r, m6_32, m6_34, m6_35, m6_38, m6_41, m6_42, m6_45, m6_47, m6_48, m6_50, m6_53, m6_54, m6_56, m6_57, m6_60, m6_63, m6_64, m6_67, m6_68, m6_71, m6_73, m6_74, m6_75, m6_76, m6_79, m6_81, m6_82, m6_83u, m6_83i, m6_83r, m6_85, m6_87, m6_89, m6_92, m6_94i, m6_96, m6_99, m6_102, m6_103, m6_106, m6_108, m6_110, m6_111, m6_113, m6_114, m6_117, m6_119i, m6_120, m6_123, m6_126, m6_127, m7_0, m7_1u, m7_2, m7_3, m7_4, m7_7, m7_10, m7_11u, m7_11i, m7_11r, m7_12, m7_13, m7_14, m7_17, m7_20, m7_21, m7_24, m7_25, m7_27, m7_28, m7_29, m7_30, m7_31, m7_32, m7_35, m7_38, m7_41, m7_44, m7_45i, m7_46, m7_47, m7_48, m7_51, m7_54, m7_55, m7_57, m7_58, m7_59, m7_60u, m7_60i, m7_60r, m7_61, m7_62, m7_65, m7_66, m7_67, m7_68, m7_69, m7_72, m7_73, m7_74, m7_75, m7_76, m7_79, m7_80, m7_81, m7_82, m7_85, m7_88, m7_89i, m7_90, m7_91, m7_92, m7_95, m7_98, m7_99, m7_100, m7_103, m7_104, m7_105, m7_107, m7_108, m7_109, m7_112, m7_113, m7_114, m7_115, m7_116, m7_119, m7_120, m7_121, m7_122, m7_125, m7_126, m7_129, m7_130, m7_131, m7_132, m7_135, m7_138, m7_141, m7_142i, m7_143, m7_144, m7_145, m7_148, m7_151, m7_152, m7_153, m7_156, m7_159, m7_162, m8_0, m8_1u, m8_2, m8_3, m8_4, m8_7, m8_10, m8_11, m8_13, m8_14, m8_15, m8_16u, m8_16i, m8_16r, m8_17, m8_18, m8_21, m8_22, m8_23, m8_26, m8_29, m8_30u, m8_30i, m8_30r, m8_32, m8_34, m8_35, m8_38, m8_41, m8_42, m8_44, m8_45, m8_47, m8_48u, m8_48i, m8_48r, m8_50, m8_51, m8_54, m8_56, m8_57, m8_60, m8_61, m8_62, m8_64, m8_65, m8_67, m8_68, m8_69, m8_72, m8_73, m8_74, m8_75, m8_78, m8_80, m8_81, m8_82, m8_83, m8_86, m8_87, m8_88, m8_89, m8_92, m8_94, m8_95, m8_96, m8_99, m8_102, m8_105, m8_108, m8_111, m9_0, m9_1, m9_4, m9_5, m9_6, m9_9, m9_10, m9_11, m9_14, m9_15, m9_16, m9_19, m9_20, m9_21, m9_24, m9_25, m9_26, m9_29, m9_30, m9_31, m9_34, m9_35, m9_36, m9_39, m9_40, m9_43, m9_44, m9_45, m9_46, m9_47, m9_50, m9_51, m9_52, m9_53, m9_54, m9_57, m9_58, m9_59, m9_60, m10_0, m10_1u, m10_2, m10_3, m10_6u, m10_7, m10_8u, m10_9, m10_10, m10_12, m10_15, m10_16, m10_17, m10_20, m10_21, m10_22, m10_23, m10_24, m10_25, m10_26, m10_27u, m10_27i, m10_27r, m10_29, m10_30, m10_32, m10_35, m10_38, m10_40i, m10_41, m10_44, m10_46, m10_47, m10_48i, m10_49, m10_52, m10_55, m10_56, m11_0, m11_1u, m11_2, m11_3, m11_4, m11_7, m11_10, m11_11, m11_14, m11_15, m11_16, m11_17, m11_20, m11_23, m11_24i, m11_25, m11_26, m11_27, m11_30, m11_31, m11_32, m11_35, m11_36, m11_37, m11_40, m11_43, m11_44, m11_45, m11_48, m11_51, m11_52, m12_0, m12_1u, m12_2, m12_3u, m12_4, m12_5, m12_6, m12_9, m12_12, m12_13, m12_16, m12_17, m12_18u, m12_18i, m12_18r, m12_20, m12_21, m12_24, m12_25, m12_28, m12_29, m12_30, m12_31, m12_32, m12_35, m12_36, m12_37, m12_38u, m12_38i, m12_38r, m12_40, m12_42, m12_43, m12_46, m12_48, m12_49, m12_52, m12_53, m12_56, m12_58, m12_60, m12_61, m12_62i, m12_63, m12_66, m12_69, m12_70i, m12_71, m12_72, m12_73, m12_76, m12_79, m12_80u, m12_80i, m12_80r, m12_82, m12_84, m12_85, m12_88, m12_91, m12_92, m12_94, m12_95, m12_97, m12_98u, m12_98i, m12_98r, m12_100, m12_101, m12_104, m12_106, m12_107, m12_110, m12_111, m12_114, m12_116, m12_117, m12_118, m12_121, m12_123, m12_124, m12_125, m12_126, m12_129, m12_130, m12_133, m12_135, m12_136, m12_137, m12_140, m12_142, m12_143, m12_144, m12_145, m12_146u, m12_146i, m12_146r, m12_148, m12_150, m12_151, m12_154, m12_155, m12_156, m12_159, m12_160, m12_163, m12_164, m12_166, m12_167, m12_168i, m12_169, m12_172, m12_175, m12_178, m12_181, m12_182, m13_0, m13_1u, m13_2, m13_3, m13_4, m13_7, m13_10, m13_11, m13_14, m13_15, m13_16, m13_19, m13_20, m13_21, m13_22, m13_25, m13_26, m13_27, m13_28, m13_29, m13_32, m13_35, m13_36i, m13_37, m13_38, m13_39, m13_42, m13_45, m13_46, m13_49, m13_50, m13_51, m13_54, m13_55, m13_56, m13_57, m13_60, m13_61, m13_64, m13_65, m13_66, m13_67, m13_68, m13_69, m13_72, m13_73, m13_76, m13_77, m13_78, m13_79, m13_80, m13_81, m13_84, m13_87, m14_0, m14_1, m14_4, m14_7, m14_9, m14_10, m14_11, m14_14, m14_15, m14_16, m14_19, m14_22, m14_24, m14_25, m14_26, m14_29, m14_30, m14_31, m15_0, m15_1, m15_4, m15_7, m15_8, m15_11, m15_12, m15_13, m15_16, m15_19, m15_21, m15_22, m15_23, m15_26, m15_27, m15_28, m16_0, m16_1, m16_4, m16_7, m16_9, m16_10, m16_11, m16_14, m17_0, m17_1, m17_2, m17_5, m17_6, m17_9, m17_10, m17_11, m17_12, m17_13, m17_16, m17_17, m17_18, m18_0, m18_3, m18_4, m18_7u, m18_8, m18_9, m18_10, m18_11, m18_12, m18_15, m18_16, m18_17, m18_18, m18_19, m18_20, m18_23, m18_24, m18_25, m18_26, m18_27, m18_28, m18_31u, m18_33, m18_34, m18_37u, m18_39, m18_40, m18_43u, m18_45, m18_46, m18_47, m18_50u, m18_52, m18_53, m18_54, m18_57u, m18_59, m18_60, m18_63u, m18_65, m18_66, m18_69, m18_70, m18_71, m18_74, m18_75, m18_78, m18_79, m18_80, m18_83, m18_84, m18_87, m18_88, m18_90, m18_93, m18_94, m18_97, m18_98u, m18_100, m18_102, m18_105, m18_106, m18_107, m18_110, m18_111, m18_114, m18_115, m18_118, m18_119u, m18_121, m18_123, m18_126, m18_127, m18_130, m18_132u, m18_134, m18_136, m18_139, m18_140, m18_143, m18_144u, m18_146, m18_148, m18_151, m18_153, m18_156, m18_157u, m18_159, m18_161, m18_164, m18_166u, m18_168, m18_171, m18_173, m18_176, m18_178u, m18_180, m18_183, m18_184, m18_185, m18_188, m18_189u, m18_191, m18_194, m18_195, m18_198, m18_199, m18_202, m18_203u, m18_205, m18_207, m18_210, m18_212u, m18_214, m18_217, m18_219, m18_222, m18_223, m18_226, m18_227, m18_230, m18_231, m18_232, m18_235, m18_236u, m18_238, m18_241, m18_243, m18_246, m18_247, m18_250, m18_251, m18_252, m18_255, m18_256, m18_259, m18_260u, m18_262, m18_265, m18_266u, m18_268, m18_270, m18_273, m18_275, m18_278, m18_279u, m18_281, m18_283, m18_285, m18_288, m18_290, m18_292, m18_295, m18_297, m18_299, m18_302, m18_304, m18_306, m18_309, m18_311, m18_313, m18_316, m18_318, m18_320, m18_323, m18_324, m18_327, m18_328, nb0, nb1, ou_a, Option.toList_some, Option.toList_none, List.nil_append, List.cons_append, ou_same, ou_comm, setA_same, setA_comm, getA_set2, setA_len, inB_iff, A0g_0, A0g_1, A0g_2, A0g_3, A0g_4, A0g_5, A0g_6, A0g_7, A0g_8, A0g_9, A0g_10, A0g_11, A0g_12, A0g_13, A0g_14, A0g_15, A0g_16, A0g_17, A0l_0, A0l_1, A0l_2, A0l_3, A0l_4, A0l_5, A0l_6, A0l_7, A0l_8, A0l_9, A0l_10, A0l_11, A0l_12, A0l_13, A0l_14, A0l_15, A0l_16, A0l_17]
    refine ⟨?_, ?_⟩ <;> simp only [ou_a, setA_len, put_len, put_tot, pad_0, tot_nil, List.length_nil, List.length_cons, A0l_0, A0l_1, A0l_2, A0l_3, A0l_4, A0l_5, A0l_6, A0l_7, A0l_8, A0l_9, A0l_10, A0l_11, A0l_12, A0l_13, A0l_14, A0l_15, A0l_16, A0l_17] <;> simp [setA_len, put_len, put_tot, pad_0, tot_nil, List.length_nil, List.length_cons, A0l_0, A0l_1, A0l_2, A0l_3, A0l_4, A0l_5, A0l_6, A0l_7, A0l_8, A0l_9, A0l_10, A0l_11, A0l_12, A0l_13, A0l_14, A0l_15, A0l_16, A0l_17]
  by_cases b6 : 7 < i2
  · simp [b1, b2, d2, b3, b4, d4, b5, b6, m0_0, m0_1, m0_4, m0_5, m0_12, m0_13, m0_20, m0_21, m0_28, m0_29, m0_36, m0_37, m0_44, m0_45, m0_52, m0_53, m0_60, m0_61, m0_68, m0_69, m0_76, m0_77, m0_85, m0_86, m0_94, m0_95, m0_103, m0_104, m0_111, m0_112, m0_119, m0_120, m0_127, m0_128, m0_135, m0_136, m0_143, m0_144, m0_152, m0_153, m0_154, m0_157, m0_158, m0_159, m0_162, m0_163, m0_164, m0_167, m0_168, m0_169, m0_172, m0_173, m0_174, m0_177, m1_0, m1_1, m1_4, m1_5, m1_6, m1_9, m1_11, m1_12, m1_13, m1_16, m1_17, m1_19, m1_22, m1_24, m1_25, m1_26, m1_29, m1_31, m1_34, m1_36, m1_37, m1_38, m1_41, m1_42, m1_45, m1_46, m1_47, m1_48, m1_51, m1_52, m1_55, m1_56, m1_57, m1_58, m1_61, m1_62, m1_65, m1_66, m1_67, m1_68, m1_69, m1_72, m1_73, m1_74, m1_77, m1_78, m1_79, m1_82, m1_83, m1_84, m1_87, m1_88, m1_91, m1_92, m1_93, m2_0, m2_1, m2_4, m2_5, m2_6, m2_9, m2_12, m2_13, m2_16, m2_17, m2_18, m2_21, m2_24, m2_26, m2_27, m2_28, m2_31, m2_32, m2_34, m2_37, m2_39, m2_40, m2_41, m2_44, m2_46, m2_49, m2_51, m2_52, m2_53, m2_56, m2_57, m2_60, m2_61, m2_62, m2_63, m2_66, m2_67, m2_70, m2_71, m2_72, m2_73, m2_76, m2_77, m2_80, m2_81, m2_82, m2_83, m2_84, m2_87, m2_88, m2_89, m2_92, m2_93, m2_94, m2_97, m2_98, m2_99, m2_102, m2_103, m2_106, m2_107, m2_108, m3_0, m3_1, m3_4, m4_0, m4_1, m4_4, m4_7, m4_8, m4_11, m4_12, m4_13, m4_16, m4_19, m4_21, m4_22, m4_23, m4_24, m4_27, m4_30, m4_32, m4_33, m4_34, m4_35, m4_36, m4_39, m4_42, m4_43, m4_46, m4_47, m4_48, m4_51, m4_54, m4_55, m4_56, m4_59, m4_62, m4_63, m4_64, m4_67, m4_68, m4_69, m4_72, m4_73, m4_74, m4_75, m4_76, m4_79, m4_82, m4_83, m4_84, m4_87, m4_88, m4_91, m5_0, m5_1u, m5_2, m5_3, m5_4, m5_7, m5_10, m5_11, m5_14, m5_15, m5_16, m5_17, m5_20, m5_23, m5_24i, m5_25, m5_26, m5_27, m5_30, m5_33, m5_34, m5_35, m5_36, m5_39, m5_42, m5_43, m5_46, m5_47, m5_50, m5_51, m5_52, m5_53, m5_54, m5_55, m5_56, m5_57, m5_60, m5_63, m5_64i, m5_65, m5_66u, m5_67, m5_68, m5_69, m5_72, m5_75, m5_76, m5_79, m5_80, m5_81, m5_84, m5_85, m5_87, m5_90, m5_91, m5_94, m5_95, m5_96, m5_97, m5_100, m5_103, m5_106, m5_107i, m5_108, m5_109, m5_110, m5_113, m5_114, m5_116, m5_119, m5_120, m5_123, m5_124, m5_125u, m5_125i, m5_125r, m5_127, m5_128u, m5_128i, m5_128r, m5_130, m5_132, m5_133, m5_136, m5_139, m5_140, m5_143, m5_145, m5_146, m5_148, m5_151, m5_152, m5_154, m5_155, m5_158, m5_161, m5_162, m5_165, m5_167, m5_168u, m5_168i, m5_168r, m5_170, m5_171, m5_174, m5_176, m5_177, m5_178, m5_179, m5_180, m5_181, m5_182, m5_185, m5_187, m5_188, m5_191, m5_192, m5_194, m5_197, m5_198, m5_201, m5_202, m5_204, m5_205, m5_208, m5_211, m5_214, m5_217, m5_220, m5_221, m5_222, m5_225, m5_228, m5_229, m5_232, m5_233, m6_0, m6_1u, m6_2, m6_3u, m6_4, m6_5, m6_6, m6_9, m6_12, m6_13, m6_16, m6_17, m6_18u, m6_18i, m6_18r, m6_20, m6_21, m6_24, m6_26, m6_27u, m6_27i, m6_27r, m6_29, m6_30u, m6_30i, m6_30r, m6_32, m6_34, m6_35, m6_38, m6_41, m6_42, m6_45, m6_47, m6_48, m6_50, m6_53, m6_54, m6_56, m6_57, m6_60, m6_63, m6_64, m6_67, m6_68, m6_71, m6_73, m6_74, m6_75, m6_76, m6_79, m6_81, m6_82, m6_83u, m6_83i, m6_83r, m6_85, m6_87, m6_89, m6_92, m6_94i, m6_96, m6_99, m6_102, m6_103, m6_106, m6_108, m6_110, m6_111, m6_113, m6_114, m6_117, m6_119i, m6_120, m6_123, m6_126, m6_127, m7_0, m7_1u, m7_2, m7_3, m7_4, m7_7, m7_10, m7_11u, m7_11i, m7_11r, m7_12, m7_13, m7_14, m7_17, m7_20, m7_21, m7_24, m7_25, m7_27, m7_28, m7_29, m7_30, m7_31, m7_32, m7_35, m7_38, m7_41, m7_44, m7_45i, m7_46, m7_47, m7_48, m7_51, m7_54, m7_55, m7_57, m7_58, m7_59, m7_60u, m7_60i, m7_60r, m7_61, m7_62, m7_65, m7_66, m7_67, m7_68, m7_69, m7_72, m7_73, m7_74, m7_75, m7_76, m7_79, m7_80, m7_81, m7_82, m7_85, m7_88, m7_89i, m7_90, m7_91, m7_92, m7_95, m7_98, m7_99, m7_100, m7_103, m7_104, m7_105, m7_107, m7_108, m7_109, m7_112, m7_113, m7_114, m7_115, m7_116, m7_119, m7_120, m7_121, m7_122, m7_125, m7_126, m7_129, m7_130, m7_131, m7_132, m7_135, m7_138, m7_141, m7_142i, m7_143, m7_144, m7_145, m7_148, m7_151, m7_152, m7_153, m7_156, m7_159, m7_162, m8_0, m8_1u, m8_2, m8_3, m8_4, m8_7, m8_10, m8_11, m8_13, m8_14, m8_15, m8_16u, m8_16i, m8_16r, m8_17, m8_18, m8_21, m8_22, m8_23, m8_26, m8_29, m8_30u, m8_30i, m8_30r, m8_32, m8_34, m8_35, m8_38, m8_41, m8_42, m8_44, m8_45, m8_47, m8_48u, m8_48i, m8_48r, m8_50, m8_51, m8_54, m8_56, m8_57, m8_60, m8_61, m8_62, m8_64, m8_65, m8_67, m8_68, m8_69, m8_72, m8_73, m8_74, m8_75, m8_78, m8_80, m8_81, m8_82, m8_83, m8_86, m8_87, m8_88, m8_89, m8_92, m8_94, m8_95, m8_96, m8_99, m8_102, m8_105, m8_108, m8_111, m9_0, m9_1, m9_4, m9_5, m9_6, m9_9, m9_10, m9_11, m9_14, m9_15, m9_16, m9_19, m9_20, m9_21, m9_24, m9_25, m9_26, m9_29, m9_30, m9_31, m9_34, m9_35, m9_36, m9_39, m9_40, m9_43, m9_44, m9_45, m9_46, m9_47, m9_50, m9_51, m9_52, m9_53, m9_54, m9_57, m9_58, m9_59, m9_60, m10_0, m10_1u, m10_2, m10_3, m10_6u, m10_7, m10_8u, m10_9, m10_10, m10_12, m10_15, m10_16, m10_17, m10_20, m10_21, m10_22, m10_23, m10_24, m10_25, m10_26, m10_27u, m10_27i, m10_27r, m10_29, m10_30, m10_32, m10_35, m10_38, m10_40i, m10_41, m10_44, m10_46, m10_47, m10_48i, m10_49, m10_52, m10_55, m10_56, m11_0, m11_1u, m11_2, m11_3, m11_4, m11_7, m11_10, m11_11, m11_14, m11_15, m11_16, m11_17, m11_20, m11_23, m11_24i, m11_25, m11_26, m11_27, m11_30, m11_31, m11_32, m11_35, m11_36, m11_37, m11_40, m11_43, m11_44, m11_45, m11_48, m11_51, m11_52, m12_0, m12_1u, m12_2, m12_3u, m12_4, m12_5, m12_6, m12_9, m12_12, m12_13, m12_16, m12_17, m12_18u, m12_18i, m12_18r, m12_20, m12_21, m12_24, m12_25, m12_28, m12_29, m12_30, m12_31, m12_32, m12_35, m12_36, m12_37, m12_38u, m12_38i, m12_38r, m12_40, m12_42, m12_43, m12_46, m12_48, m12_49, m12_52, m12_53, m12_56, m12_58, m12_60, m12_61, m12_62i, m12_63, m12_66, m12_69, m12_70i, m12_71, m12_72, m12_73, m12_76, m12_79, m12_80u, m12_80i, m12_80r, m12_82, m12_84, m12_85, m12_88, m12_91, m12_92, m12_94, m12_95, m12_97, m12_98u, m12_98i, m12_98r, m12_100, m12_101, m12_104, m12_106, m12_107, m12_110, m12_111, m12_114, m12_116, m12_117, m12_118, m12_121, m12_123, m12_124, m12_125, m12_126, m12_129, m12_130, m12_133, m12_135, m12_136, m12_137, m12_140, m12_142, m12_143, m12_144, m12_145, m12_146u, m12_146i, m12_146r, m12_148, m12_150, m12_151, m12_154, m12_155, m12_156, m12_159, m12_160, m12_163, m12_164, m12_166, m12_167, m12_168i, m12_169, m12_172, m12_175, m12_178, m12_181, m12_182, m13_0, m13_1u, m13_2, m13_3, m13_4, m13_7, m13_10, m13_11, m13_14, m13_15, m13_16, m13_19, m13_20, m13_21, m13_22, m13_25, m13_26, m13_27, m13_28, m13_29, m13_32, m13_35, m13_36i, m13_37, m13_38, m13_39, m13_42, m13_45, m13_46, m13_49, m13_50, m13_51, m13_54, m13_55, m13_56, m13_57, m13_60, m13_61, m13_64, m13_65, m13_66, m13_67, m13_68, m13_69, m13_72, m13_73, m13_76, m13_77, m13_78, m13_79, m13_80, m13_81, m13_84, m13_87, m14_0, m14_1, m14_4, m14_7, m14_9, m14_10, m14_11, m14_14, m14_15, m14_16, m14_19, m14_22, m14_24, m14_25, m14_26, m14_29, m14_30, m14_31, m15_0, m15_1, m15_4, m15_7, m15_8, m15_11, m15_12, m15_13, m15_16, m15_19, m15_21, m15_22, m15_23, m15_26, m15_27, m15_28, m16_0, m16_1, m16_4, m16_7, m16_9, m16_10, m16_11, m16_14, m17_0, m17_1, m17_2, m17_5, m17_6, m17_9, m17_10, m17_11, m17_12, m17_13, m17_16, m17_17, m17_18, m18_0, m18_3, m18_4, m18_7u, m18_8, m18_9, m18_10, m18_11, m18_12, m18_15, m18_16, m18_17, m18_18, m18_19, m18_20, m18_23, m18_24, m18_25, m18_26, m18_27, m18_28, m18_31u, m18_33, m18_34, m18_37u, m18_39, m18_40, m18_43u, m18_45, m18_46, m18_47, m18_50u, m18_52, m18_53, m18_54, m18_57u, m18_59, m18_60, m18_63u, m18_65, m18_66, m18_69, m18_70, m18_71, m18_74, m18_75, m18_78, m18_79, m18_80, m18_83, m18_84, m18_87, m18_88, m18_90, m18_93, m18_94, m18_97, m18_98u, m18_100, m18_102, m18_105, m18_106, m18_107, m18_110, m18_111, m18_114, m18_115, m18_118, m18_119u, m18_121, m18_123, m18_126, m18_127, m18_130, m18_132u, m18_134, m18_136, m18_139, m18_140, m18_143, m18_144u, m18_146, m18_148, m18_151, m18_153, m18_156, m18_157u, m18_159, m18_161, m18_164, m18_166u, m18_168, m18_171, m18_173, m18_176, m18_178u, m18_180, m18_183, m18_184, m18_185, m18_188, m18_189u, m18_191, m18_194, m18_195, m18_198, m18_199, m18_202, m18_203u, m18_205, m18_207, m18_210, m18_212u, m18_214, m18_217, m18_219, m18_222, m18_223, m18_226, m18_227, m18_230, m18_231, m18_232, m18_235, m18_236u, m18_238, m18_241, m18_243, m18_246, m18_247, m18_250, m18_251, m18_252, m18_255, m18_256, m18_259, m18_260u, m18_262, m18_265, m18_266u, m18_268, m18_270, m18_273, m18_275, m18_278, m18_279u, m18_281, m18_283, m18_285, m18_288, m18_290, m18_292, m18_295, m18_297, m18_299, m18_302, m18_304, m18_306, m18_309, m18_311, m18_313, m18_316, m18_318, m18_320, m18_323, m18_324, m18_327, m18_328, nb0, nb1, ou_a, Option.toList_some, Option.toList_none, List.nil_append, List.cons_append, ou_same, ou_comm, setA_same, setA_comm, getA_set2, setA_len, inB_iff, A0g_0, A0g_1, A0g_2, A0g_3, A0g_4, A0g_5, A0g_6, A0g_7, A0g_8, A0g_9, A0g_10, A0g_11, A0g_12, A0g_13, A0g_14, A0g_15, A0g_16, A0g_17, A0l_0, A0l_1, A0l_2, A0l_3, A0l_4, A0l_5, A0l_6, A0l_7, A0l_8, A0l_9, A0l_10, A0l_11, A0l_12, A0l_13, A0l_14, A0l_15, A0l_16, A0l_17]
    refine ⟨?_, ?_⟩ <;> simp only [ou_a, setA_len, put_len, put_tot, pad_0, tot_nil, List.length_nil, List.length_cons, A0l_0, A0l_1, A0l_2, A0l_3, A0l_4, A0l_5, A0l_6, A0l_7, A0l_8, A0l_9, A0l_10, A0l_11, A0l_12, A0l_13, A0l_14, A0l_15, A0l_16, A0l_17] <;> simp [setA_len, put_len, put_tot, pad_0, tot_nil, List.length_nil, List.length_cons, A0l_0, A0l_1, A0l_2, A0l_3, A0l_4, A0l_5, A0l_6, A0l_7, A0l_8, A0l_9, A0l_10, A0l_11, A0l_12, A0l_13, A0l_14, A0l_15, A0l_16, A0l_17]
  rcases own_2 b1 b2 with rfl | rfl <;> rcases own_2 b3 b4 with rfl | rfl <;> rcases own_8 b5 b6 with rfl | rfl | rfl | rfl | rfl | rfl | rfl | rfl <;>
  · simp [m0_0, m0_1, m0_4, m0_5, m0_12, m0_13, m0_20, m0_21, m0_28, m0_29, m0_36, m0_37, m0_44, m0_45, m0_52, m0_53, m0_60, m0_61, m0_68, m0_69, m0_76, m0_77, m0_85, m0_86, m0_94, m0_95, m0_103, m0_104, m0_111, m0_112, m0_119, m0_120, m0_127, m0_128, m0_135, m0_136, m0_143, m0_144, m0_152, m0_153, m0_154, m0_157, m0_158, m0_159, m0_162, m0_163, m0_164, m0_167, m0_168, m0_169, m0_172, m0_173, m0_174, m0_177, m1_0, m1_1, m1_4, m1_5, m1_6, m1_9, m1_11, m1_12, m1_13, m1_16, m1_17, m1_19, m1_22, m1_24, m1_25, m1_26, m1_29, m1_31, m1_34, m1_36, m1_37, m1_38, m1_41, m1_42, m1_45, m1_46, m1_47, m1_48, m1_51, m1_52, m1_55, m1_56, m1_57, m1_58, m1_61, m1_62, m1_65, m1_66, m1_67, m1_68, m1_69, m1_72, m1_73, m1_74, m1_77, m1_78, m1_79, m1_82, m1_83, m1_84, m1_87, m1_88, m1_91, m1_92, m1_93, m2_0, m2_1, m2_4, m2_5, m2_6, m2_9, m2_12, m2_13, m2_16, m2_17, m2_18, m2_21, m2_24, m2_26, m2_27, m2_28, m2_31, m2_32, m2_34, m2_37, m2_39, m2_40, m2_41, m2_44, m2_46, m2_49, m2_51, m2_52, m2_53, m2_56, m2_57, m2_60, m2_61, m2_62, m2_63, m2_66, m2_67, m2_70, m2_71, m2_72, m2_73, m2_76, m2_77, m2_80, m2_81, m2_82, m2_83, m2_84, m2_87, m2_88, m2_89, m2_92, m2_93, m2_94, m2_97, m2_98, m2_99, m2_102, m2_103, m2_106, m2_107, m2_108, m3_0, m3_1, m3_4, m4_0, m4_1, m4_4, m4_7, m4_8, m4_11, m4_12, m4_13, m4_16, m4_19, m4_21, m4_22, m4_23, m4_24, m4_27, m4_30, m4_32, m4_33, m4_34, m4_35, m4_36, m4_39, m4_42, m4_43, m4_46, m4_47, m4_48, m4_51, m4_54, m4_55, m4_56, m4_59, m4_62, m4_63, m4_64, m4_67, m4_68, m4_69, m4_72, m4_73, m4_74, m4_75, m4_76, m4_79, m4_82, m4_83, m4_84, m4_87, m4_88, m4_91, m5_0, m5_1u, m5_2, m5_3, m5_4, m5_7, m5_10, m5_11, m5_14, m5_15, m5_16, m5_17, m5_20, m5_23, m5_24i, m5_25, m5_26, m5_27, m5_30, m5_33, m5_34, m5_35, m5_36, m5_39, m5_42, m5_43, m5_46, m5_47, m5_50, m5_51, m5_52, m5_53, m5_54, m5_55, m5_56, m5_57, m5_60, m5_63, m5_64i, m5_65, m5_66u, m5_67, m5_68, m5_69, m5_72, m5_75, m5_76, m5_79, m5_80, m5_81, m5_84, m5_85, m5_87, m5_90, m5_91, m5_94, m5_95, m5_96, m5_97, m5_100, m5_103, m5_106, m5_107i, m5_108, m5_109, m5_110, m5_113, m5_114, m5_116, m5_119, m5_120, m5_123, m5_124, m5_125u, m5_125i, m5_125r, m5_127, m5_128u, m5_128i, m5_128r, m5_130, m5_132, m5_133, m5_136, m5_139, m5_140, m5_143, m5_145, m5_146, m5_148, m5_151, m5_152, m5_154, m5_155, m5_158, m5_161, m5_162, m5_165, m5_167, m5_168u, m5_168i, m5_168r, m5_170, m5_171, m5_174, m5_176, m5_177, m5_178, m5_179, m5_180, m5_181, m5_182, m5_185, m5_187, m5_188, m5_191, m5_192, m5_194, m5_197, m5_198, m5_201, m5_202, m5_204, m5_205, m5_208, m5_211, m5_214, m5_217, m5_220, m5_221, m5_222, m5_225, m5_228, m5_229, m5_232, m5_233, m6_0, m6_1u, m6_2, m6_3u, m6_4, m6_5, m6_6, m6_9, m6_12, m6_13, m6_16, m6_17, m6_18u, m6_18i, m6_18r, m6_20, m6_21, m6_24, m6_26, m6_27u, m6_27i, m6_27r, m6_29, m6_30u, m6_30i, m6_30r, m6_32, m6_34, m6_35, m6_38, m6_41, m6_42, m6_45, m6_47, m6_48, m6_50, m6_53, m6_54, m6_56, m6_57, m6_60, m6_63, m6_64, m6_67, m6_68, m6_71, m6_73, m6_74, m6_75, m6_76, m6_79, m6_81, m6_82, m6_83u, m6_83i, m6_83r, m6_85, m6_87, m6_89, m6_92, m6_94i, m6_96, m6_99, m6_102, m6_103, m6_106, m6_108, m6_110, m6_111, m6_113, m6_114, m6_117, m6_119i, m6_120, m6_123, m6_126, m6_127, m7_0, m7_1u, m7_2, m7_3, m7_4, m7_7, m7_10, m7_11u, m7_11i, m7_11r, m7_12, m7_13, m7_14, m7_17, m7_20, m7_21, m7_24, m7_25, m7_27, m7_28, m7_29, m7_30, m7_31, m7_32, m7_35, m7_38, m7_41, m7_44, m7_45i, m7_46, m7_47, m7_48, m7_51, m7_54, m7_55, m7_57, m7_58, m7_59, m7_60u, m7_60i, m7_60r, m7_61, m7_62, m7_65, m7_66, m7_67, m7_68, m7_69, m7_72, m7_73, m7_74, m7_75, m7_76, m7_79, m7_80, m7_81, m7_82, m7_85, m7_88, m7_89i, m7_90, m7_91, m7_92, m7_95, m7_98, m7_99, m7_100, m7_103, m7_104, m7_105, m7_107, m7_108, m7_109, m7_112, m7_113, m7_114, m7_115, m7_116, m7_119, m7_120, m7_121, m7_122, m7_125, m7_126, m7_129, m7_130, m7_131, m7_132, m7_135, m7_138, m7_141, m7_142i, m7_143, m7_144, m7_145, m7_148, m7_151, m7_152, m7_153, m7_156, m7_159, m7_162, m8_0, m8_1u, m8_2, m8_3, m8_4, m8_7, m8_10, m8_11, m8_13, m8_14, m8_15, m8_16u, m8_16i, m8_16r, m8_17, m8_18, m8_21, m8_22, m8_23, m8_26, m8_29, m8_30u, m8_30i, m8_30r, m8_32, m8_34, m8_35, m8_38, m8_41, m8_42, m8_44, m8_45, m8_47, m8_48u, m8_48i, m8_48r, m8_50, m8_51, m8_54, m8_56, m8_57, m8_60, m8_61, m8_62, m8_64, m8_65, m8_67, m8_68, m8_69, m8_72, m8_73, m8_74, m8_75, m8_78, m8_80, m8_81, m8_82, m8_83, m8_86, m8_87, m8_88, m8_89, m8_92, m8_94, m8_95, m8_96, m8_99, m8_102, m8_105, m8_108, m8_111, m9_0, m9_1, m9_4, m9_5, m9_6, m9_9, m9_10, m9_11, m9_14, m9_15, m9_16, m9_19, m9_20, m9_21, m9_24, m9_25, m9_26, m9_29, m9_30, m9_31, m9_34, m9_35, m9_36, m9_39, m9_40, m9_43, m9_44, m9_45, m9_46, m9_47, m9_50, m9_51, m9_52, m9_53, m9_54, m9_57, m9_58, m9_59, m9_60, m10_0, m10_1u, m10_2, m10_3, m10_6u, m10_7, m10_8u, m10_9, m10_10, m10_12, m10_15, m10_16, m10_17, m10_20, m10_21, m10_22, m10_23, m10_24, m10_25, m10_26, m10_27u, m10_27i, m10_27r, m10_29, m10_30, m10_32, m10_35, m10_38, m10_40i, m10_41, m10_44, m10_46, m10_47, m10_48i, m10_49, m10_52, m10_55, m10_56, m11_0, m11_1u, m11_2, m11_3, m11_4, m11_7, m11_10, m11_11, m11_14, m11_15, m11_16, m11_17, m11_20, m11_23, m11_24i, m11_25, m11_26, m11_27, m11_30, m11_31, m11_32, m11_35, m11_36, m11_37, m11_40, m11_43, m11_44, m11_45, m11_48, m11_51, m11_52, m12_0, m12_1u, m12_2, m12_3u, m12_4, m12_5, m12_6, m12_9, m12_12, m12_13, m12_16, m12_17, m12_18u, m12_18i, m12_18r, m12_20, m12_21, m12_24, m12_25, m12_28, m12_29, m12_30, m12_31, m12_32, m12_35, m12_36, m12_37, m12_38u, m12_38i, m12_38r, m12_40, m12_42, m12_43, m12_46, m12_48, m12_49, m12_52, m12_53, m12_56, m12_58, m12_60, m12_61, m12_62i, m12_63, m12_66, m12_69, m12_70i, m12_71, m12_72, m12_73, m12_76, m12_79, m12_80u, m12_80i, m12_80r, m12_82, m12_84, m12_85, m12_88, m12_91, m12_92, m12_94, m12_95, m12_97, m12_98u, m12_98i, m12_98r, m12_100, m12_101, m12_104, m12_106, m12_107, m12_110, m12_111, m12_114, m12_116, m12_117, m12_118, m12_121, m12_123, m12_124, m12_125, m12_126, m12_129, m12_130, m12_133, m12_135, m12_136, m12_137, m12_140, m12_142, m12_143, m12_144, m12_145, m12_146u, m12_146i, m12_146r, m12_148, m12_150, m12_151, m12_154, m12_155, m12_156, m12_159, m12_160, m12_163, m12_164, m12_166, m12_167, m12_168i, m12_169, m12_172, m12_175, m12_178, m12_181, m12_182, m13_0, m13_1u, m13_2, m13_3, m13_4, m13_7, m13_10, m13_11, m13_14, m13_15, m13_16, m13_19, m13_20, m13_21, m13_22, m13_25, m13_26, m13_27, m13_28, m13_29, m13_32, m13_35, m13_36i, m13_37, m13_38, m13_39, m13_42, m13_45, m13_46, m13_49, m13_50, m13_51, m13_54, m13_55, m13_56, m13_57, m13_60, m13_61, m13_64, m13_65, m13_66, m13_67, m13_68, m13_69, m13_72, m13_73, m13_76, m13_77, m13_78, m13_79, m13_80, m13_81, m13_84, m13_87, m14_0, m14_1, m14_4, m14_7, m14_9, m14_10, m14_11, m14_14, m14_15, m14_16, m14_19, m14_22, m14_24, m14_25, m14_26, m14_29, m14_30, m14_31, m15_0, m15_1, m15_4, m15_7, m15_8, m15_11, m15_12, m15_13, m15_16, m15_19, m15_21, m15_22, m15_23, m15_26, m15_27, m15_28, m16_0, m16_1, m16_4, m16_7, m16_9, m16_10, m16_11, m16_14, m17_0, m17_1, m17_2, m17_5, m17_6, m17_9, m17_10, m17_11, m17_12, m17_13, m17_16, m17_17, m17_18, m18_0, m18_3, m18_4, m18_7u, m18_8, m18_9, m18_10, m18_11, m18_12, m18_15, m18_16, m18_17, m18_18, m18_19, m18_20, m18_23, m18_24, m18_25, m18_26, m18_27, m18_28, m18_31u, m18_33, m18_34, m18_37u, m18_39, m18_40, m18_43u, m18_45, m18_46, m18_47, m18_50u, m18_52, m18_53, m18_54, m18_57u, m18_59, m18_60, m18_63u, m18_65, m18_66, m18_69, m18_70, m18_71, m18_74, m18_75, m18_78, m18_79, m18_80, m18_83, m18_84, m18_87, m18_88, m18_90, m18_93, m18_94, m18_97, m18_98u, m18_100, m18_102, m18_105, m18_106, m18_107, m18_110, m18_111, m18_114, m18_115, m18_118, m18_119u, m18_121, m18_123, m18_126, m18_127, m18_130, m18_132u, m18_134, m18_136, m18_139, m18_140, m18_143, m18_144u, m18_146, m18_148, m18_151, m18_153, m18_156, m18_157u, m18_159, m18_161, m18_164, m18_166u, m18_168, m18_171, m18_173, m18_176, m18_178u, m18_180, m18_183, m18_184, m18_185, m18_188, m18_189u, m18_191, m18_194, m18_195, m18_198, m18_199, m18_202, m18_203u, m18_205, m18_207, m18_210, m18_212u, m18_214, m18_217, m18_219, m18_222, m18_223, m18_226, m18_227, m18_230, m18_231, m18_232, m18_235, m18_236u, m18_238, m18_241, m18_243, m18_246, m18_247, m18_250, m18_251, m18_252, m18_255, m18_256, m18_259, m18_260u, m18_262, m18_265, m18_266u, m18_268, m18_270, m18_273, m18_275, m18_278, m18_279u, m18_281, m18_283, m18_285, m18_288, m18_290, m18_292, m18_295, m18_297, m18_299, m18_302, m18_304, m18_306, m18_309, m18_311, m18_313, m18_316, m18_318, m18_320, m18_323, m18_324, m18_327, m18_328, nb0, nb1, ou_a, Option.toList_some, Option.toList_none, List.nil_append, List.cons_append, ou_same, ou_comm, setA_same, setA_comm, getA_set2, setA_len, inB_iff, A0g_0, A0g_1, A0g_2, A0g_3, A0g_4, A0g_5, A0g_6, A0g_7, A0g_8, A0g_9, A0g_10, A0g_11, A0g_12, A0g_13, A0g_14, A0g_15, A0g_16, A0g_17, A0l_0, A0l_1, A0l_2, A0l_3, A0l_4, A0l_5, A0l_6, A0l_7, A0l_8, A0l_9, A0l_10, A0l_11, A0l_12, A0l_13, A0l_14, A0l_15, A0l_16, A0l_17]
    refine ⟨?_, ?_⟩ <;> simp only [ou_a, setA_len, put_len, put_tot, pad_0, tot_nil, List.length_nil, List.length_cons, A0l_0, A0l_1, A0l_2, A0l_3, A0l_4, A0l_5, A0l_6, A0l_7, A0l_8, A0l_9, A0l_10, A0l_11, A0l_12, A0l_13, A0l_14, A0l_15, A0l_16, A0l_17] <;> simp [setA_len, put_len, put_tot, pad_0, tot_nil, List.length_nil, List.length_cons, A0l_0, A0l_1, A0l_2, A0l_3, A0l_4, A0l_5, A0l_6, A0l_7, A0l_8, A0l_9, A0l_10, A0l_11, A0l_12, A0l_13, A0l_14, A0l_15, A0l_16, A0l_17]
theorem own_dn : ∀ f' l', dnOf dn x = some (f', l') → f' ≤ room_1.frames ∧ l' ≤ room_1.locals := by
  have h : dnOf dn x = some (4, 61) := by decide +kernel
  intro f' l' q; rw [h] at q; cases q; decide
theorem own_pn : Jvm.plainName x.cls = true := by first | (simp [Jvm.plainName, overriddenIn, x]; done) | decide +kernel
theorem own_rm (l : Launch) (Z : State) (a0 : Array Value) (hw : ∀ d ∈ tables_1, d.before a0 Z = true) (i0 : Int32) (i1 : Int32) (i2 : Int32) (h : Heap) :
    MetFree l x (head1 (Jvm.Cond.code x code maxLocals ret :: tables_1) room_1) (fun a U => a = #[.int i0, .int i1, .int i2] ∧ Z.Warmed39 U.vm ∧ U.heap = h) (fun _ _ _ _ _ => True) (fun _ U o U' => ∃ w L, o = .returned w ∧ (w = some (.int 1) ∧ Fr h.size L) ∧ FrameEnd U o U' L 48 9536) :=
  law_of (as := [.int i0, .int i1, .int i2]) (mx := maxLocals) (f := room_1.frames) (lc := room_1.locals) hw l tables_1 own_pn (by show 3 ≤ 18; omega) (own_law i0 i1 i2) own_dn (Sim.empty Z tables_1 h)
set_option maxRecDepth 65536 in
set_option maxHeartbeats 40000000 in
theorem comes_1 {Post : Tables → Env → Array Value → State → Outcome → State → Prop} (hpost : ∀ tb e args s v u, (limb_1_1.after args s (.returned v) u = true ∧ limb_1_2.after args s (.returned v) u = true ∧ True) → FrameEnd s (.returned v) u (Jvm.fieldLocs frame_1_writes args s ++ Jvm.arrayLocs frame_1_arrays args s ++ Jvm.staticLocs frame_1_statics s) 48 9536 → Post tb e args s (.returned v) u) :
    ArmFor flags0 classFile x code maxLocals ret World_1 tables_1 room_1 Calls_1 rest_1 Pre_1 Post := by
  intro l hfl _ _ p e ha hc hk s m args below hf hA hF happ hP
  obtain ⟨hcalls, hrest, hpre⟩ := hP
  obtain ⟨-, -, -, hnamed, -, -, -, hat⟩ := (Spec.applies_iff hf).mp happ
  obtain ⟨hg, hn⟩ := and_e (Cond.before_iff.mp (show (Jvm.Cond.and given_1 narrow_1).before args s = true from hpre))
  obtain ⟨g0, t0⟩ := and_e hg
  obtain ⟨q0, t1⟩ := and_e t0
  obtain ⟨q1, t2⟩ := and_e t1
  have q2 := t2
  obtain ⟨w0, w1, w2, rfl⟩ : ∃ w0 w1 w2 : Value, args = #[w0, w1, w2] := by
    have hs : args.size = 3 := by simpa [Cond.value, given_1] using g0
    obtain ⟨L⟩ := args
    match L, hs with
    | [w0, w1, w2], _ => exact ⟨w0, w1, w2, rfl⟩
  have hw := fun d (hd : d ∈ tables_1) => atoms_spec (ws := Jvm.Cond.code x code maxLocals ret :: tables_1) hat d (List.mem_cons_of_mem _ hd)
  obtain ⟨i0, ei0⟩ := is_v q0
  obtain rfl : w0 = (.int i0) := Option.some.inj ei0
  obtain ⟨i1, ei1⟩ := is_v q1
  obtain rfl : w1 = (.int i1) := Option.some.inj ei1
  obtain ⟨i2, ei2⟩ := is_v q2
  obtain rfl : w2 = (.int i2) := Option.some.inj ei2
  obtain ⟨n, o, h1, h2, h3, _, L, rfl, ⟨rfl, N⟩, hq⟩ := own_rm l s _ hw i0 i1 i2 s.heap p e ha hc hk s m _ below hf ((Spec.applies_iff_loose hf).mp happ).1 ⟨rfl, State.Warmed39.refl s, rfl⟩ trivial
  exact ⟨n, _, h1, h2, h3, hpost _ _ _ _ _ _ ⟨Cond.after_iff.mpr rfl, Cond.after_iff.mpr (eq_i res_at (Term.int_eval (1)) rfl), trivial⟩ ⟨hq.1, hq.2.1, (hq.2.2.sift fun y hy => Or.inr (N y hy)).mono (by decide) (by decide)⟩⟩
theorem main_1_1 : Claimed_1_1 := comes_1 fun _ _ _ _ _ _ h hF => ⟨h.1, hF⟩
theorem main_1_2 : Claimed_1_2 := comes_1 fun _ _ _ _ _ _ h hF => ⟨h.2.1, hF⟩
end Jvm.Pilot.@@N@@
namespace Jvm.Pilot.@@N@@
open Jvm Jvm.ClassFile Sem Op Lib Jvm.Free Jvm.Stand Jvm.Pilot.@@N@@.Jvm.D
/-! MADE BY PROGRAM (witnessworld.py) out of the Statement's table words and the real class files: 11 classes; the members and pool entries that the words name. The judged class is class 1, her method 1. -/
namespace start1
open Jvm.ClassFile
def u (s : String) : CpInfo := .utf8 (stringToUtf16 s)
/-- a pool by its gaps: so many unusable entries, then the entry; so many at the end -/
def gap : Nat → List CpInfo → List CpInfo
  | 0, r => r
  | n + 1, r => .unusable :: gap n r
def poolList (es : List (Nat × CpInfo)) (last : Nat) : List CpInfo := es.foldr (fun e r => gap e.1 (e.2 :: r)) (gap last [])
def pool (es : List (Nat × CpInfo)) (last : Nat) : Array CpInfo := ⟨poolList es last⟩
def fileOf (pool : Array CpInfo) (this : Nat) (attrs : Array Attribute := #[]) (ms : Array MethodInfo := #[]) (fl : Nat := 33) (sup : Nat := 0) (ifs : Array Nat := #[]) (fds : Array FieldInfo := #[]) : ClassFile where
  minorVersion := 0
  majorVersion := 65
  constantPool := pool
  accessFlags := fl
  thisClass := this
  superClass := sup
  interfaces := ifs
  fields := fds
  methods := ms
  attributes := attrs
def plain (name : String) (sup : Option ClassId) : Class where
  name := name
  kind := .ordinary
  loader := none
  accessFlags := 33
  super := sup
  interfaces := #[]
  cf := none
  fields := #[]
  methods := #[]
  instanceTypes := #[]
  staticTypes := #[]
  resolved := #[]
  callSites := []
  init := .initialized
  statics := none
  mirror := none

def pool0 : Array CpInfo := pool [(5, u "<init>"), (0, u "()V"), (1, .class_ 10), (1, u "java/lang/Object")] 113

def k0c0 : Code := { maxStack := 0, maxLocals := 1, code := object_method_1_code, exceptionTable := #[], attributes := #[] }
def k0m0 : Method := { name := "<init>", desc := "()V", sig := { parameters := [], returnType := none }, accessFlags := 1, code := some k0c0 }
/-- java/lang/Object -/
def k0 : Class := { plain "java/lang/Object" none with
  accessFlags := 33
  interfaces := #[]
  cf := some (fileOf pool0 8 #[] #[{ accessFlags := 1, nameIndex := 5, descriptorIndex := 6, attributes := #[] }] 33 0 #[] #[])
  fields := #[]
  methods := #[k0m0]
  instanceTypes := #[]
  staticTypes := #[]
  resolved := Array.replicate 124 none
  statics := none }

def pool1 : Array CpInfo := pool [(2, .class_ 4), (0, .nameAndType 5 6), (0, u "java/lang/Object"), (0, u "<init>"), (0, u "()V"), (0, .class_ 8), (0, u "RetimingEngine"), (0, .methodref 7 3), (0, .methodref 7 11), (0, .nameAndType 12 13), (0, u "addVertex"), (0, u "(III)I"), (0, .methodref 7 15), (0, .nameAndType 16 13), (0, u "addEdge"), (0, .methodref 7 18), (0, .nameAndType 19 20), (0, u "edgeCount"), (0, u "()I"), (0, .methodref 7 22), (0, .nameAndType 23 20), (0, u "retime"), (0, .methodref 7 25), (0, .nameAndType 26 27), (0, u "retimedRegs"), (0, u "(I)I"), (0, .methodref 7 29), (0, .nameAndType 30 27), (0, u "lag"), (0, .methodref 7 32), (0, .nameAndType 33 20), (0, u "minPeriod"), (0, .integer 2147483648), (0, .class_ 36), (0, u "RetimingEngineL2"), (2, u "law"), (0, u "(III)Z")] 3

def k1m0 : Method := { name := "<init>", desc := "()V", sig := { parameters := [], returnType := none }, accessFlags := 1, code := none }
def k1c1 : Code := { maxStack := 4, maxLocals := 18, code := code, exceptionTable := #[], attributes := #[] }
def k1m1 : Method := { name := "law", desc := "(III)Z", sig := { parameters := [.int, .int, .int], returnType := some .boolean }, accessFlags := 9, code := some k1c1 }
/-- RetimingEngineL2 -/
def k1 : Class := { plain "RetimingEngineL2" (some 0) with
  accessFlags := 49
  interfaces := #[]
  cf := some (fileOf pool1 35 #[] #[{ accessFlags := 1, nameIndex := 5, descriptorIndex := 6, attributes := #[] }, { accessFlags := 9, nameIndex := 39, descriptorIndex := 40, attributes := #[] }] 49 2 #[] #[])
  fields := #[]
  methods := #[k1m0, k1m1]
  instanceTypes := #[]
  staticTypes := #[]
  resolved := Array.replicate 44 none
  statics := none }

def pool2 : Array CpInfo := pool [(1, .methodref 2 3), (0, .class_ 4), (0, .nameAndType 5 6), (0, u "java/lang/Object"), (0, u "<init>"), (0, u "()V"), (0, .fieldref 8 9), (0, .class_ 10), (0, .nameAndType 11 12), (0, u "RetimingEngine"), (0, u "vop"), (0, u "[I"), (0, .fieldref 8 14), (0, .nameAndType 15 12), (0, u "vdel"), (0, .fieldref 8 17), (0, .nameAndType 18 12), (0, u "vk"), (0, .fieldref 8 20), (0, .nameAndType 21 12), (0, u "esrc"), (0, .fieldref 8 23), (0, .nameAndType 24 12), (0, u "edst"), (0, .fieldref 8 26), (0, .nameAndType 27 12), (0, u "ereg"), (0, .fieldref 8 29), (0, .nameAndType 30 12), (0, u "enew"), (0, .fieldref 8 32), (0, .nameAndType 33 12), (0, u "inputs"), (0, .fieldref 8 35), (0, .nameAndType 36 12), (0, u "outs"), (0, .fieldref 8 38), (0, .nameAndType 39 12), (0, u "wt"), (0, .fieldref 8 41), (0, .nameAndType 42 12), (0, u "dd"), (0, .fieldref 8 44), (0, .nameAndType 45 46), (0, u "reach"), (0, u "[Z"), (0, .fieldref 8 48), (0, .nameAndType 49 12), (0, u "dist"), (0, .fieldref 8 51), (0, .nameAndType 52 12), (0, u "lagv"), (0, .fieldref 8 54), (0, .nameAndType 55 12), (0, u "order"), (0, .fieldref 8 57), (0, .nameAndType 58 12), (0, u "indeg"), (0, .fieldref 8 60), (0, .nameAndType 61 12), (0, u "arr"), (0, .fieldref 8 63), (0, .nameAndType 64 12), (0, u "sval"), (0, .fieldref 8 66), (0, .nameAndType 67 68), (0, u "n"), (0, u "I"), (0, .fieldref 8 70), (0, .nameAndType 71 68), (0, u "m"), (0, .fieldref 8 73), (0, .nameAndType 74 68), (0, u "inCount"), (0, .fieldref 8 76), (0, .nameAndType 77 68), (0, u "sim"), (0, .fieldref 8 79), (0, .nameAndType 80 81), (0, u "retimed"), (0, u "Z"), (0, .fieldref 8 83), (0, .nameAndType 84 68), (0, u "pmin"), (0, .methodref 8 86), (0, .nameAndType 87 88), (0, u "topo"), (0, u "(I)Z"), (0, .methodref 8 90), (0, .nameAndType 91 92), (0, u "period"), (0, u "(I)I"), (0, .fieldref 8 94), (0, .nameAndType 95 68), (0, u "origPeriod"), (0, .methodref 8 97), (0, .nameAndType 98 6), (0, u "computePairs"), (0, .methodref 8 100), (0, .nameAndType 101 102), (0, u "searchMin"), (0, u "()I"), (0, .methodref 8 104), (0, .nameAndType 105 88), (0, u "feasible"), (0, .methodref 8 107), (0, .nameAndType 108 6), (0, u "applyLags"), (0, .fieldref 8 110), (0, .nameAndType 111 68), (0, u "retPeriod"), (3, u "(II)I"), (0, .integer 2147483648), (4, .methodref 8 122), (0, .nameAndType 123 115), (0, u "xOf"), (0, .methodref 8 125), (0, .nameAndType 126 127), (0, u "offer"), (0, u "(III)V"), (0, .methodref 8 129), (0, .nameAndType 130 131), (0, u "relaxVia"), (0, u "(I)V"), (0, .methodref 8 133), (0, .nameAndType 134 88), (0, u "relaxPass"), (3, u "(III)I"), (0, u "OP_INPUT"), (2, u "OP_ADD"), (1, u "OP_XOR"), (1, u "OP_AND"), (1, u "CIRCUIT_ORIGINAL"), (0, u "CIRCUIT_RETIMED"), (0, u "NO_PATH"), (1, u "ERR_BAD_ARG"), (1, u "ERR_FULL"), (1, u "ERR_EMPTY"), (1, u "ERR_COMB_CYCLE"), (1, u "ERR_NOT_RETIMED"), (1, u "LAG_NONE"), (0, u "MAX_VERTICES"), (1, u "MAX_EDGES"), (1, u "MAX_INPUTS"), (2, u "addVertex"), (1, u "addEdge"), (0, u "retime"), (0, u "edgeCount"), (1, u "minPeriod"), (3, u "lag"), (0, u "retimedRegs")] 7

def k2c0 : Code := { maxStack := 2, maxLocals := 1, code := prog_1_method_1_code, exceptionTable := #[], attributes := #[] }
def k2m0 : Method := { name := "<init>", desc := "()V", sig := { parameters := [], returnType := none }, accessFlags := 1, code := some k2c0 }
def k2c1 : Code := { maxStack := 3, maxLocals := 4, code := prog_1_method_2_code, exceptionTable := #[], attributes := #[] }
def k2m1 : Method := { name := "addVertex", desc := "(III)I", sig := { parameters := [.int, .int, .int], returnType := some .int }, accessFlags := 1, code := some k2c1 }
def k2c2 : Code := { maxStack := 3, maxLocals := 4, code := prog_1_method_3_code, exceptionTable := #[], attributes := #[] }
def k2m2 : Method := { name := "addEdge", desc := "(III)I", sig := { parameters := [.int, .int, .int], returnType := some .int }, accessFlags := 1, code := some k2c2 }
def k2c3 : Code := { maxStack := 3, maxLocals := 1, code := prog_1_method_4_code, exceptionTable := #[], attributes := #[] }
def k2m3 : Method := { name := "retime", desc := "()I", sig := { parameters := [], returnType := some .int }, accessFlags := 1, code := some k2c3 }
def k2c4 : Code := { maxStack := 1, maxLocals := 1, code := prog_1_method_5_code, exceptionTable := #[], attributes := #[] }
def k2m4 : Method := { name := "edgeCount", desc := "()I", sig := { parameters := [], returnType := some .int }, accessFlags := 1, code := some k2c4 }
def k2c5 : Code := { maxStack := 1, maxLocals := 1, code := prog_1_method_7_code, exceptionTable := #[], attributes := #[] }
def k2m5 : Method := { name := "minPeriod", desc := "()I", sig := { parameters := [], returnType := some .int }, accessFlags := 1, code := some k2c5 }
def k2c6 : Code := { maxStack := 2, maxLocals := 2, code := prog_1_method_11_code, exceptionTable := #[], attributes := #[] }
def k2m6 : Method := { name := "lag", desc := "(I)I", sig := { parameters := [.int], returnType := some .int }, accessFlags := 1, code := some k2c6 }
def k2c7 : Code := { maxStack := 2, maxLocals := 2, code := prog_1_method_12_code, exceptionTable := #[], attributes := #[] }
def k2m7 : Method := { name := "retimedRegs", desc := "(I)I", sig := { parameters := [.int], returnType := some .int }, accessFlags := 1, code := some k2c7 }
def k2c8 : Code := { maxStack := 2, maxLocals := 3, code := prog_1_method_19_code, exceptionTable := #[], attributes := #[] }
def k2m8 : Method := { name := "xOf", desc := "(II)I", sig := { parameters := [.int, .int], returnType := some .int }, accessFlags := 2, code := some k2c8 }
def k2c9 : Code := { maxStack := 4, maxLocals := 7, code := prog_1_method_20_code, exceptionTable := #[], attributes := #[] }
def k2m9 : Method := { name := "topo", desc := "(I)Z", sig := { parameters := [.int], returnType := some .boolean }, accessFlags := 2, code := some k2c9 }
def k2c10 : Code := { maxStack := 3, maxLocals := 8, code := prog_1_method_21_code, exceptionTable := #[], attributes := #[] }
def k2m10 : Method := { name := "period", desc := "(I)I", sig := { parameters := [.int], returnType := some .int }, accessFlags := 2, code := some k2c10 }
def k2c11 : Code := { maxStack := 3, maxLocals := 4, code := prog_1_method_22_code, exceptionTable := #[], attributes := #[] }
def k2m11 : Method := { name := "offer", desc := "(III)V", sig := { parameters := [.int, .int, .int], returnType := none }, accessFlags := 2, code := some k2c11 }
def k2c12 : Code := { maxStack := 6, maxLocals := 3, code := prog_1_method_23_code, exceptionTable := #[], attributes := #[] }
def k2m12 : Method := { name := "computePairs", desc := "()V", sig := { parameters := [], returnType := none }, accessFlags := 2, code := some k2c12 }
def k2c13 : Code := { maxStack := 6, maxLocals := 6, code := prog_1_method_24_code, exceptionTable := #[], attributes := #[] }
def k2m13 : Method := { name := "relaxVia", desc := "(I)V", sig := { parameters := [.int], returnType := none }, accessFlags := 2, code := some k2c13 }
def k2c14 : Code := { maxStack := 3, maxLocals := 5, code := prog_1_method_25_code, exceptionTable := #[], attributes := #[] }
def k2m14 : Method := { name := "searchMin", desc := "()I", sig := { parameters := [], returnType := some .int }, accessFlags := 2, code := some k2c14 }
def k2c15 : Code := { maxStack := 3, maxLocals := 3, code := prog_1_method_26_code, exceptionTable := #[], attributes := #[] }
def k2m15 : Method := { name := "feasible", desc := "(I)Z", sig := { parameters := [.int], returnType := some .boolean }, accessFlags := 2, code := some k2c15 }
def k2c16 : Code := { maxStack := 3, maxLocals := 7, code := prog_1_method_27_code, exceptionTable := #[], attributes := #[] }
def k2m16 : Method := { name := "relaxPass", desc := "(I)Z", sig := { parameters := [.int], returnType := some .boolean }, accessFlags := 2, code := some k2c16 }
def k2c17 : Code := { maxStack := 6, maxLocals := 2, code := prog_1_method_28_code, exceptionTable := #[], attributes := #[] }
def k2m17 : Method := { name := "applyLags", desc := "()V", sig := { parameters := [], returnType := none }, accessFlags := 2, code := some k2c17 }
/-- RetimingEngine -/
def k2 : Class := { plain "RetimingEngine" (some 0) with
  accessFlags := 49
  interfaces := #[]
  cf := some (fileOf pool2 8 #[] #[{ accessFlags := 1, nameIndex := 5, descriptorIndex := 6, attributes := #[] }, { accessFlags := 1, nameIndex := 170, descriptorIndex := 138, attributes := #[] }, { accessFlags := 1, nameIndex := 172, descriptorIndex := 138, attributes := #[] }, { accessFlags := 1, nameIndex := 173, descriptorIndex := 102, attributes := #[] }, { accessFlags := 1, nameIndex := 174, descriptorIndex := 102, attributes := #[] }, { accessFlags := 1, nameIndex := 176, descriptorIndex := 102, attributes := #[] }, { accessFlags := 1, nameIndex := 180, descriptorIndex := 92, attributes := #[] }, { accessFlags := 1, nameIndex := 181, descriptorIndex := 92, attributes := #[] }, { accessFlags := 2, nameIndex := 123, descriptorIndex := 115, attributes := #[] }, { accessFlags := 2, nameIndex := 87, descriptorIndex := 88, attributes := #[] }, { accessFlags := 2, nameIndex := 91, descriptorIndex := 92, attributes := #[] }, { accessFlags := 2, nameIndex := 126, descriptorIndex := 127, attributes := #[] }, { accessFlags := 2, nameIndex := 98, descriptorIndex := 6, attributes := #[] }, { accessFlags := 2, nameIndex := 130, descriptorIndex := 131, attributes := #[] }, { accessFlags := 2, nameIndex := 101, descriptorIndex := 102, attributes := #[] }, { accessFlags := 2, nameIndex := 105, descriptorIndex := 88, attributes := #[] }, { accessFlags := 2, nameIndex := 134, descriptorIndex := 88, attributes := #[] }, { accessFlags := 2, nameIndex := 108, descriptorIndex := 6, attributes := #[] }] 49 2 #[] #[{ accessFlags := 25, nameIndex := 139, descriptorIndex := 68, attributes := #[] }, { accessFlags := 25, nameIndex := 142, descriptorIndex := 68, attributes := #[] }, { accessFlags := 25, nameIndex := 144, descriptorIndex := 68, attributes := #[] }, { accessFlags := 25, nameIndex := 146, descriptorIndex := 68, attributes := #[] }, { accessFlags := 25, nameIndex := 148, descriptorIndex := 68, attributes := #[] }, { accessFlags := 25, nameIndex := 149, descriptorIndex := 68, attributes := #[] }, { accessFlags := 25, nameIndex := 150, descriptorIndex := 68, attributes := #[] }, { accessFlags := 25, nameIndex := 152, descriptorIndex := 68, attributes := #[] }, { accessFlags := 25, nameIndex := 154, descriptorIndex := 68, attributes := #[] }, { accessFlags := 25, nameIndex := 156, descriptorIndex := 68, attributes := #[] }, { accessFlags := 25, nameIndex := 158, descriptorIndex := 68, attributes := #[] }, { accessFlags := 25, nameIndex := 160, descriptorIndex := 68, attributes := #[] }, { accessFlags := 25, nameIndex := 162, descriptorIndex := 68, attributes := #[] }, { accessFlags := 25, nameIndex := 163, descriptorIndex := 68, attributes := #[] }, { accessFlags := 25, nameIndex := 165, descriptorIndex := 68, attributes := #[] }, { accessFlags := 25, nameIndex := 167, descriptorIndex := 68, attributes := #[] }, { accessFlags := 2, nameIndex := 67, descriptorIndex := 68, attributes := #[] }, { accessFlags := 2, nameIndex := 71, descriptorIndex := 68, attributes := #[] }, { accessFlags := 2, nameIndex := 11, descriptorIndex := 12, attributes := #[] }, { accessFlags := 2, nameIndex := 15, descriptorIndex := 12, attributes := #[] }, { accessFlags := 2, nameIndex := 18, descriptorIndex := 12, attributes := #[] }, { accessFlags := 2, nameIndex := 21, descriptorIndex := 12, attributes := #[] }, { accessFlags := 2, nameIndex := 24, descriptorIndex := 12, attributes := #[] }, { accessFlags := 2, nameIndex := 27, descriptorIndex := 12, attributes := #[] }, { accessFlags := 2, nameIndex := 30, descriptorIndex := 12, attributes := #[] }, { accessFlags := 2, nameIndex := 33, descriptorIndex := 12, attributes := #[] }, { accessFlags := 2, nameIndex := 74, descriptorIndex := 68, attributes := #[] }, { accessFlags := 2, nameIndex := 77, descriptorIndex := 68, attributes := #[] }, { accessFlags := 2, nameIndex := 36, descriptorIndex := 12, attributes := #[] }, { accessFlags := 2, nameIndex := 80, descriptorIndex := 81, attributes := #[] }, { accessFlags := 2, nameIndex := 84, descriptorIndex := 68, attributes := #[] }, { accessFlags := 2, nameIndex := 95, descriptorIndex := 68, attributes := #[] }, { accessFlags := 2, nameIndex := 111, descriptorIndex := 68, attributes := #[] }, { accessFlags := 2, nameIndex := 39, descriptorIndex := 12, attributes := #[] }, { accessFlags := 2, nameIndex := 42, descriptorIndex := 12, attributes := #[] }, { accessFlags := 2, nameIndex := 45, descriptorIndex := 46, attributes := #[] }, { accessFlags := 2, nameIndex := 49, descriptorIndex := 12, attributes := #[] }, { accessFlags := 2, nameIndex := 52, descriptorIndex := 12, attributes := #[] }, { accessFlags := 2, nameIndex := 55, descriptorIndex := 12, attributes := #[] }, { accessFlags := 2, nameIndex := 58, descriptorIndex := 12, attributes := #[] }, { accessFlags := 2, nameIndex := 61, descriptorIndex := 12, attributes := #[] }, { accessFlags := 2, nameIndex := 64, descriptorIndex := 12, attributes := #[] }])
  fields := #[{ name := "OP_INPUT", type := .int, accessFlags := 25, slot := 0, constantValue := 0 }, { name := "OP_ADD", type := .int, accessFlags := 25, slot := 1, constantValue := 0 }, { name := "OP_XOR", type := .int, accessFlags := 25, slot := 2, constantValue := 0 }, { name := "OP_AND", type := .int, accessFlags := 25, slot := 3, constantValue := 0 }, { name := "CIRCUIT_ORIGINAL", type := .int, accessFlags := 25, slot := 4, constantValue := 0 }, { name := "CIRCUIT_RETIMED", type := .int, accessFlags := 25, slot := 5, constantValue := 0 }, { name := "NO_PATH", type := .int, accessFlags := 25, slot := 6, constantValue := 0 }, { name := "ERR_BAD_ARG", type := .int, accessFlags := 25, slot := 7, constantValue := 0 }, { name := "ERR_FULL", type := .int, accessFlags := 25, slot := 8, constantValue := 0 }, { name := "ERR_EMPTY", type := .int, accessFlags := 25, slot := 9, constantValue := 0 }, { name := "ERR_COMB_CYCLE", type := .int, accessFlags := 25, slot := 10, constantValue := 0 }, { name := "ERR_NOT_RETIMED", type := .int, accessFlags := 25, slot := 11, constantValue := 0 }, { name := "LAG_NONE", type := .int, accessFlags := 25, slot := 12, constantValue := 0 }, { name := "MAX_VERTICES", type := .int, accessFlags := 25, slot := 13, constantValue := 0 }, { name := "MAX_EDGES", type := .int, accessFlags := 25, slot := 14, constantValue := 0 }, { name := "MAX_INPUTS", type := .int, accessFlags := 25, slot := 15, constantValue := 0 }, { name := "n", type := .int, accessFlags := 2, slot := 0, constantValue := 0 }, { name := "m", type := .int, accessFlags := 2, slot := 1, constantValue := 0 }, { name := "vop", type := (.array .int), accessFlags := 2, slot := 2, constantValue := 0 }, { name := "vdel", type := (.array .int), accessFlags := 2, slot := 3, constantValue := 0 }, { name := "vk", type := (.array .int), accessFlags := 2, slot := 4, constantValue := 0 }, { name := "esrc", type := (.array .int), accessFlags := 2, slot := 5, constantValue := 0 }, { name := "edst", type := (.array .int), accessFlags := 2, slot := 6, constantValue := 0 }, { name := "ereg", type := (.array .int), accessFlags := 2, slot := 7, constantValue := 0 }, { name := "enew", type := (.array .int), accessFlags := 2, slot := 8, constantValue := 0 }, { name := "inputs", type := (.array .int), accessFlags := 2, slot := 9, constantValue := 0 }, { name := "inCount", type := .int, accessFlags := 2, slot := 10, constantValue := 0 }, { name := "sim", type := .int, accessFlags := 2, slot := 11, constantValue := 0 }, { name := "outs", type := (.array .int), accessFlags := 2, slot := 12, constantValue := 0 }, { name := "retimed", type := .boolean, accessFlags := 2, slot := 13, constantValue := 0 }, { name := "pmin", type := .int, accessFlags := 2, slot := 14, constantValue := 0 }, { name := "origPeriod", type := .int, accessFlags := 2, slot := 15, constantValue := 0 }, { name := "retPeriod", type := .int, accessFlags := 2, slot := 16, constantValue := 0 }, { name := "wt", type := (.array .int), accessFlags := 2, slot := 17, constantValue := 0 }, { name := "dd", type := (.array .int), accessFlags := 2, slot := 18, constantValue := 0 }, { name := "reach", type := (.array .boolean), accessFlags := 2, slot := 19, constantValue := 0 }, { name := "dist", type := (.array .int), accessFlags := 2, slot := 20, constantValue := 0 }, { name := "lagv", type := (.array .int), accessFlags := 2, slot := 21, constantValue := 0 }, { name := "order", type := (.array .int), accessFlags := 2, slot := 22, constantValue := 0 }, { name := "indeg", type := (.array .int), accessFlags := 2, slot := 23, constantValue := 0 }, { name := "arr", type := (.array .int), accessFlags := 2, slot := 24, constantValue := 0 }, { name := "sval", type := (.array .int), accessFlags := 2, slot := 25, constantValue := 0 }]
  methods := #[k2m0, k2m1, k2m2, k2m3, k2m4, k2m5, k2m6, k2m7, k2m8, k2m9, k2m10, k2m11, k2m12, k2m13, k2m14, k2m15, k2m16, k2m17]
  instanceTypes := #[.int, .int, (.array .int), (.array .int), (.array .int), (.array .int), (.array .int), (.array .int), (.array .int), (.array .int), .int, .int, (.array .int), .boolean, .int, .int, .int, (.array .int), (.array .int), (.array .boolean), (.array .int), (.array .int), (.array .int), (.array .int), (.array .int), (.array .int)]
  staticTypes := #[.int, .int, .int, .int, .int, .int, .int, .int, .int, .int, .int, .int, .int, .int, .int, .int]
  resolved := Array.replicate 189 none
  statics := none }

def pool3 : Array CpInfo := pool [(1, u "java/lang/Cloneable"), (0, .class_ 1), (0, u "java/lang/Object"), (0, .class_ 3)] 3

/-- java/lang/Cloneable -/
def k3 : Class := { plain "java/lang/Cloneable" (some 0) with
  accessFlags := 1537
  interfaces := #[]
  cf := some (fileOf pool3 2 #[] #[] 1537 4 #[] #[])
  fields := #[]
  methods := #[]
  instanceTypes := #[]
  staticTypes := #[]
  resolved := Array.replicate 8 none
  statics := none }

def pool4 : Array CpInfo := pool [(1, u "java/io/Serializable"), (0, .class_ 1), (0, u "java/lang/Object"), (0, .class_ 3)] 3

/-- java/io/Serializable -/
def k4 : Class := { plain "java/io/Serializable" (some 0) with
  accessFlags := 1537
  interfaces := #[]
  cf := some (fileOf pool4 2 #[] #[] 1537 4 #[] #[])
  fields := #[]
  methods := #[]
  instanceTypes := #[]
  staticTypes := #[]
  resolved := Array.replicate 8 none
  statics := none }

/-- the primitive boolean -/
def k5 : Class := { plain "boolean" none with kind := .primitive 'Z', accessFlags := 0x411 }
/-- [Z -/
def k6 : Class := { plain "[Z" (some 0) with kind := .array 5 .boolean, interfaces := #[3, 4], accessFlags := 1041 }

/-- the primitive byte -/
def k7 : Class := { plain "byte" none with kind := .primitive 'B', accessFlags := 0x411 }
/-- [B -/
def k8 : Class := { plain "[B" (some 0) with kind := .array 7 .byte, interfaces := #[3, 4], accessFlags := 1041 }

/-- the primitive int -/
def k9 : Class := { plain "int" none with kind := .primitive 'I', accessFlags := 0x411 }
/-- [I -/
def k10 : Class := { plain "[I" (some 0) with kind := .array 9 .int, interfaces := #[3, 4], accessFlags := 1041 }

def heap : Heap := #[]
def classes : Array Class := #[k0, k1, k2, k3, k4, k5, k6, k7, k8, k9, k10]
def interned : List (Array UInt16 × Addr) := []
def slotsUsed : Nat := 0
def theMethod : MethodId := ⟨1, 1⟩
def args0 : Array Value := #[.int 0, .int 1, .int 2]
def aboutOver (below : List Frame) : State where
  vm := { classes := classes, interned := interned.toArray }
  heap := heap
  slotsUsed := slotsUsed
  threads := #[{ frames := .invoking theMethod args0 :: below }]
def below0 : List Frame := [.native { method := ⟨0, 0⟩, args := #[] }]
def about1 : State := aboutOver below0
def p0 : Program := .bare "" "" ""
def e0 : Env := launch0.env 0 0 0
theorem w_frames : about1.frames = Frame.invoking theMethod args0 :: below0 := rfl
set_option maxRecDepth 65536 in
theorem w_args : argsFit about1.vm theMethod args0 = true := by decide +kernel
set_option maxRecDepth 65536 in
theorem w_heap : heapFits about1 = true := by decide +kernel
set_option maxRecDepth 65536 in
theorem w_runnable : about1.curStatus? = some .runnable := by decide +kernel
set_option maxRecDepth 65536 in
theorem w_alone : about1.alone = true := by decide +kernel
set_option maxRecDepth 65536 in
theorem w_named : about1.methodNamed? x = some theMethod := by decide +kernel
set_option maxRecDepth 65536 in
theorem w_hears : about1.hears theMethod below0 = true := by decide +kernel
set_option maxRecDepth 65536 in
theorem w_ripe : about1.ripe theMethod args0 below0 = true := by decide +kernel
theorem w_running : about1.status = .running := rfl
set_option maxRecDepth 65536 in
theorem w_room : about1.hasRoom e0.platform room_1 = true :=
  launch0.hasRoom_least _ room_1 (by decide +kernel) (by decide +kernel) (by decide +kernel) (by decide +kernel) (by decide +kernel) (by decide +kernel)
theorem allAtoms_all (ts : List Jvm.Cond) (a : Array Jvm.Value) (st : Jvm.State) : (allAtoms ts).before a st = ts.all (fun c => c.before a st) := by
  induction ts with
  | nil => rfl
  | cons c t ih =>
    show (Jvm.Cond.and c (allAtoms t)).before a st = _
    rw [Jvm.Cond.before_and, ih, List.all_cons]
def words1 : List Jvm.Cond := Jvm.Cond.code x code maxLocals ret :: tables_1
/-- a 'code' word, met by the world's own term for the bytes: nothing is compared byte by byte -/
theorem code_word {y : MethodName} {bytes : ByteArray} {mx : Nat} {rt : Option FieldType} {a : Array Value} {s : State} {m : MethodId} {meth : Method} {c : Code} (h1 : s.methodNamed? y = some m) (h2 : s.vm.method? m = some meth) (h3 : meth.code = some c) (h4 : c.code = bytes)
    (h5 : (c.maxLocals == mx && c.exceptionTable.isEmpty && decide (c.maxStack ≤ mostOperands) && decide (meth.sig.returnType = rt) && !meth.locks && decide (parseMethodDescriptor y.desc = some meth.sig)) = true) : (Jvm.Cond.code y bytes mx rt).before a s = true := by
  simp only [Bool.and_eq_true, beq_iff_eq, Bool.not_eq_true', decide_eq_true_eq] at h5
  obtain ⟨⟨⟨⟨⟨g1, g2⟩, g3⟩, g4⟩, g5⟩, g6⟩ := h5
  simp [Cond.before, Cond.holds, Cond.value, h1, h2, h3, h4, g1, g2, g3, g4, g5, g6]
def isCode : Jvm.Cond → Bool
  | .code _ _ _ _ => true
  | _ => false
theorem all_split {L : List Jvm.Cond} {P : Jvm.Cond → Bool} (h1 : L.all (fun c => isCode c || P c) = true) (h2 : ∀ c ∈ L.filter isCode, P c = true) : L.all P = true := by
  refine List.all_eq_true.mpr fun c hc => ?_
  have h := List.all_eq_true.mp h1 c hc
  rcases Bool.eq_false_or_eq_true (isCode c) with hi | hi
  · exact h2 c (List.mem_filter.mpr ⟨hc, hi⟩)
  · simpa [hi] using h
set_option maxRecDepth 65536 in
theorem w_c0 : (Jvm.Cond.code x code maxLocals ret).before args0 about1 = true := code_word (m := ⟨1, 1⟩) (meth := k1m1) (c := k1c1) (by decide +kernel) rfl rfl rfl (by decide +kernel)
set_option maxRecDepth 65536 in
theorem w_c1 : (Jvm.Cond.code ({ cls := "RetimingEngine", name := "<init>", desc := "()V" } : Jvm.MethodName) prog_1_method_1_code (1 : Nat) (Option.none : Option Jvm.ClassFile.FieldType)).before args0 about1 = true := code_word (m := ⟨2, 0⟩) (meth := k2m0) (c := k2c0) (by decide +kernel) rfl rfl rfl (by decide +kernel)
set_option maxRecDepth 65536 in
theorem w_c2 : (Jvm.Cond.code ({ cls := "java/lang/Object", name := "<init>", desc := "()V" } : Jvm.MethodName) object_method_1_code (1 : Nat) (Option.none : Option Jvm.ClassFile.FieldType)).before args0 about1 = true := code_word (m := ⟨0, 0⟩) (meth := k0m0) (c := k0c0) (by decide +kernel) rfl rfl rfl (by decide +kernel)
set_option maxRecDepth 65536 in
theorem w_c3 : (Jvm.Cond.code ({ cls := "RetimingEngine", name := "addVertex", desc := "(III)I" } : Jvm.MethodName) prog_1_method_2_code (4 : Nat) (Option.some Jvm.ClassFile.FieldType.int)).before args0 about1 = true := code_word (m := ⟨2, 1⟩) (meth := k2m1) (c := k2c1) (by decide +kernel) rfl rfl rfl (by decide +kernel)
set_option maxRecDepth 65536 in
theorem w_c4 : (Jvm.Cond.code ({ cls := "RetimingEngine", name := "addEdge", desc := "(III)I" } : Jvm.MethodName) prog_1_method_3_code (4 : Nat) (Option.some Jvm.ClassFile.FieldType.int)).before args0 about1 = true := code_word (m := ⟨2, 2⟩) (meth := k2m2) (c := k2c2) (by decide +kernel) rfl rfl rfl (by decide +kernel)
set_option maxRecDepth 65536 in
theorem w_c5 : (Jvm.Cond.code ({ cls := "RetimingEngine", name := "edgeCount", desc := "()I" } : Jvm.MethodName) prog_1_method_5_code (1 : Nat) (Option.some Jvm.ClassFile.FieldType.int)).before args0 about1 = true := code_word (m := ⟨2, 4⟩) (meth := k2m4) (c := k2c4) (by decide +kernel) rfl rfl rfl (by decide +kernel)
set_option maxRecDepth 65536 in
theorem w_c6 : (Jvm.Cond.code ({ cls := "RetimingEngine", name := "retime", desc := "()I" } : Jvm.MethodName) prog_1_method_4_code (1 : Nat) (Option.some Jvm.ClassFile.FieldType.int)).before args0 about1 = true := code_word (m := ⟨2, 3⟩) (meth := k2m3) (c := k2c3) (by decide +kernel) rfl rfl rfl (by decide +kernel)
set_option maxRecDepth 65536 in
theorem w_c7 : (Jvm.Cond.code ({ cls := "RetimingEngine", name := "topo", desc := "(I)Z" } : Jvm.MethodName) prog_1_method_20_code (7 : Nat) (Option.some Jvm.ClassFile.FieldType.boolean)).before args0 about1 = true := code_word (m := ⟨2, 9⟩) (meth := k2m9) (c := k2c9) (by decide +kernel) rfl rfl rfl (by decide +kernel)
set_option maxRecDepth 65536 in
theorem w_c8 : (Jvm.Cond.code ({ cls := "RetimingEngine", name := "period", desc := "(I)I" } : Jvm.MethodName) prog_1_method_21_code (8 : Nat) (Option.some Jvm.ClassFile.FieldType.int)).before args0 about1 = true := code_word (m := ⟨2, 10⟩) (meth := k2m10) (c := k2c10) (by decide +kernel) rfl rfl rfl (by decide +kernel)
set_option maxRecDepth 65536 in
theorem w_c9 : (Jvm.Cond.code ({ cls := "RetimingEngine", name := "computePairs", desc := "()V" } : Jvm.MethodName) prog_1_method_23_code (3 : Nat) (Option.none : Option Jvm.ClassFile.FieldType)).before args0 about1 = true := code_word (m := ⟨2, 12⟩) (meth := k2m12) (c := k2c12) (by decide +kernel) rfl rfl rfl (by decide +kernel)
set_option maxRecDepth 65536 in
theorem w_c10 : (Jvm.Cond.code ({ cls := "RetimingEngine", name := "relaxVia", desc := "(I)V" } : Jvm.MethodName) prog_1_method_24_code (6 : Nat) (Option.none : Option Jvm.ClassFile.FieldType)).before args0 about1 = true := code_word (m := ⟨2, 13⟩) (meth := k2m13) (c := k2c13) (by decide +kernel) rfl rfl rfl (by decide +kernel)
set_option maxRecDepth 65536 in
theorem w_c11 : (Jvm.Cond.code ({ cls := "RetimingEngine", name := "offer", desc := "(III)V" } : Jvm.MethodName) prog_1_method_22_code (4 : Nat) (Option.none : Option Jvm.ClassFile.FieldType)).before args0 about1 = true := code_word (m := ⟨2, 11⟩) (meth := k2m11) (c := k2c11) (by decide +kernel) rfl rfl rfl (by decide +kernel)
set_option maxRecDepth 65536 in
theorem w_c12 : (Jvm.Cond.code ({ cls := "RetimingEngine", name := "searchMin", desc := "()I" } : Jvm.MethodName) prog_1_method_25_code (5 : Nat) (Option.some Jvm.ClassFile.FieldType.int)).before args0 about1 = true := code_word (m := ⟨2, 14⟩) (meth := k2m14) (c := k2c14) (by decide +kernel) rfl rfl rfl (by decide +kernel)
set_option maxRecDepth 65536 in
theorem w_c13 : (Jvm.Cond.code ({ cls := "RetimingEngine", name := "feasible", desc := "(I)Z" } : Jvm.MethodName) prog_1_method_26_code (3 : Nat) (Option.some Jvm.ClassFile.FieldType.boolean)).before args0 about1 = true := code_word (m := ⟨2, 15⟩) (meth := k2m15) (c := k2c15) (by decide +kernel) rfl rfl rfl (by decide +kernel)
set_option maxRecDepth 65536 in
theorem w_c14 : (Jvm.Cond.code ({ cls := "RetimingEngine", name := "relaxPass", desc := "(I)Z" } : Jvm.MethodName) prog_1_method_27_code (7 : Nat) (Option.some Jvm.ClassFile.FieldType.boolean)).before args0 about1 = true := code_word (m := ⟨2, 16⟩) (meth := k2m16) (c := k2c16) (by decide +kernel) rfl rfl rfl (by decide +kernel)
set_option maxRecDepth 65536 in
theorem w_c15 : (Jvm.Cond.code ({ cls := "RetimingEngine", name := "applyLags", desc := "()V" } : Jvm.MethodName) prog_1_method_28_code (2 : Nat) (Option.none : Option Jvm.ClassFile.FieldType)).before args0 about1 = true := code_word (m := ⟨2, 17⟩) (meth := k2m17) (c := k2c17) (by decide +kernel) rfl rfl rfl (by decide +kernel)
set_option maxRecDepth 65536 in
theorem w_c16 : (Jvm.Cond.code ({ cls := "RetimingEngine", name := "retimedRegs", desc := "(I)I" } : Jvm.MethodName) prog_1_method_12_code (2 : Nat) (Option.some Jvm.ClassFile.FieldType.int)).before args0 about1 = true := code_word (m := ⟨2, 7⟩) (meth := k2m7) (c := k2c7) (by decide +kernel) rfl rfl rfl (by decide +kernel)
set_option maxRecDepth 65536 in
theorem w_c17 : (Jvm.Cond.code ({ cls := "RetimingEngine", name := "lag", desc := "(I)I" } : Jvm.MethodName) prog_1_method_11_code (2 : Nat) (Option.some Jvm.ClassFile.FieldType.int)).before args0 about1 = true := code_word (m := ⟨2, 6⟩) (meth := k2m6) (c := k2c6) (by decide +kernel) rfl rfl rfl (by decide +kernel)
set_option maxRecDepth 65536 in
theorem w_c18 : (Jvm.Cond.code ({ cls := "RetimingEngine", name := "minPeriod", desc := "()I" } : Jvm.MethodName) prog_1_method_7_code (1 : Nat) (Option.some Jvm.ClassFile.FieldType.int)).before args0 about1 = true := code_word (m := ⟨2, 5⟩) (meth := k2m5) (c := k2c5) (by decide +kernel) rfl rfl rfl (by decide +kernel)
set_option maxRecDepth 65536 in
theorem w_c19 : (Jvm.Cond.code ({ cls := "RetimingEngine", name := "xOf", desc := "(II)I" } : Jvm.MethodName) prog_1_method_19_code (3 : Nat) (Option.some Jvm.ClassFile.FieldType.int)).before args0 about1 = true := code_word (m := ⟨2, 8⟩) (meth := k2m8) (c := k2c8) (by decide +kernel) rfl rfl rfl (by decide +kernel)
def codes1 : List Jvm.Cond := [Jvm.Cond.code x code maxLocals ret, Jvm.Cond.code ({ cls := "RetimingEngine", name := "<init>", desc := "()V" } : Jvm.MethodName) prog_1_method_1_code (1 : Nat) (Option.none : Option Jvm.ClassFile.FieldType), Jvm.Cond.code ({ cls := "java/lang/Object", name := "<init>", desc := "()V" } : Jvm.MethodName) object_method_1_code (1 : Nat) (Option.none : Option Jvm.ClassFile.FieldType), Jvm.Cond.code ({ cls := "RetimingEngine", name := "addVertex", desc := "(III)I" } : Jvm.MethodName) prog_1_method_2_code (4 : Nat) (Option.some Jvm.ClassFile.FieldType.int), Jvm.Cond.code ({ cls := "RetimingEngine", name := "addEdge", desc := "(III)I" } : Jvm.MethodName) prog_1_method_3_code (4 : Nat) (Option.some Jvm.ClassFile.FieldType.int), Jvm.Cond.code ({ cls := "RetimingEngine", name := "edgeCount", desc := "()I" } : Jvm.MethodName) prog_1_method_5_code (1 : Nat) (Option.some Jvm.ClassFile.FieldType.int), Jvm.Cond.code ({ cls := "RetimingEngine", name := "retime", desc := "()I" } : Jvm.MethodName) prog_1_method_4_code (1 : Nat) (Option.some Jvm.ClassFile.FieldType.int), Jvm.Cond.code ({ cls := "RetimingEngine", name := "topo", desc := "(I)Z" } : Jvm.MethodName) prog_1_method_20_code (7 : Nat) (Option.some Jvm.ClassFile.FieldType.boolean), Jvm.Cond.code ({ cls := "RetimingEngine", name := "period", desc := "(I)I" } : Jvm.MethodName) prog_1_method_21_code (8 : Nat) (Option.some Jvm.ClassFile.FieldType.int), Jvm.Cond.code ({ cls := "RetimingEngine", name := "computePairs", desc := "()V" } : Jvm.MethodName) prog_1_method_23_code (3 : Nat) (Option.none : Option Jvm.ClassFile.FieldType), Jvm.Cond.code ({ cls := "RetimingEngine", name := "relaxVia", desc := "(I)V" } : Jvm.MethodName) prog_1_method_24_code (6 : Nat) (Option.none : Option Jvm.ClassFile.FieldType), Jvm.Cond.code ({ cls := "RetimingEngine", name := "offer", desc := "(III)V" } : Jvm.MethodName) prog_1_method_22_code (4 : Nat) (Option.none : Option Jvm.ClassFile.FieldType), Jvm.Cond.code ({ cls := "RetimingEngine", name := "searchMin", desc := "()I" } : Jvm.MethodName) prog_1_method_25_code (5 : Nat) (Option.some Jvm.ClassFile.FieldType.int), Jvm.Cond.code ({ cls := "RetimingEngine", name := "feasible", desc := "(I)Z" } : Jvm.MethodName) prog_1_method_26_code (3 : Nat) (Option.some Jvm.ClassFile.FieldType.boolean), Jvm.Cond.code ({ cls := "RetimingEngine", name := "relaxPass", desc := "(I)Z" } : Jvm.MethodName) prog_1_method_27_code (7 : Nat) (Option.some Jvm.ClassFile.FieldType.boolean), Jvm.Cond.code ({ cls := "RetimingEngine", name := "applyLags", desc := "()V" } : Jvm.MethodName) prog_1_method_28_code (2 : Nat) (Option.none : Option Jvm.ClassFile.FieldType), Jvm.Cond.code ({ cls := "RetimingEngine", name := "retimedRegs", desc := "(I)I" } : Jvm.MethodName) prog_1_method_12_code (2 : Nat) (Option.some Jvm.ClassFile.FieldType.int), Jvm.Cond.code ({ cls := "RetimingEngine", name := "lag", desc := "(I)I" } : Jvm.MethodName) prog_1_method_11_code (2 : Nat) (Option.some Jvm.ClassFile.FieldType.int), Jvm.Cond.code ({ cls := "RetimingEngine", name := "minPeriod", desc := "()I" } : Jvm.MethodName) prog_1_method_7_code (1 : Nat) (Option.some Jvm.ClassFile.FieldType.int), Jvm.Cond.code ({ cls := "RetimingEngine", name := "xOf", desc := "(II)I" } : Jvm.MethodName) prog_1_method_19_code (3 : Nat) (Option.some Jvm.ClassFile.FieldType.int)]
set_option maxRecDepth 65536 in
theorem codes_eq : words1.filter isCode = codes1 := rfl
theorem w_codes : ∀ c ∈ words1.filter isCode, c.before args0 about1 = true := by
  rw [codes_eq]
  intro c hc
  simp only [codes1, List.mem_cons, List.not_mem_nil, or_false] at hc
  rcases hc with rfl | rfl | rfl | rfl | rfl | rfl | rfl | rfl | rfl | rfl | rfl | rfl | rfl | rfl | rfl | rfl | rfl | rfl | rfl | rfl
  · exact w_c0
  · exact w_c1
  · exact w_c2
  · exact w_c3
  · exact w_c4
  · exact w_c5
  · exact w_c6
  · exact w_c7
  · exact w_c8
  · exact w_c9
  · exact w_c10
  · exact w_c11
  · exact w_c12
  · exact w_c13
  · exact w_c14
  · exact w_c15
  · exact w_c16
  · exact w_c17
  · exact w_c18
  · exact w_c19
set_option maxRecDepth 65536 in
theorem w_t1 : (words1.take 24).all (fun c => isCode c || c.before args0 about1) = true := by decide +kernel
set_option maxRecDepth 65536 in
theorem w_t2 : ((words1.drop 24).take 24).all (fun c => isCode c || c.before args0 about1) = true := by decide +kernel
set_option maxRecDepth 65536 in
theorem w_t3 : (((words1.drop 24).drop 24).take 24).all (fun c => isCode c || c.before args0 about1) = true := by decide +kernel
set_option maxRecDepth 65536 in
theorem w_t4 : ((((words1.drop 24).drop 24).drop 24).take 24).all (fun c => isCode c || c.before args0 about1) = true := by decide +kernel
set_option maxRecDepth 65536 in
theorem w_t5 : (((((words1.drop 24).drop 24).drop 24).drop 24).take 24).all (fun c => isCode c || c.before args0 about1) = true := by decide +kernel
set_option maxRecDepth 65536 in
theorem w_t6 : (((((words1.drop 24).drop 24).drop 24).drop 24).drop 24).all (fun c => isCode c || c.before args0 about1) = true := by decide +kernel
theorem w_tables : (allAtoms (Jvm.Cond.code x code maxLocals ret :: tables_1)).before args0 about1 = true := by
  rw [allAtoms_all]
  show words1.all (fun c => c.before args0 about1) = true
  refine all_split ?_ w_codes
  rw [← List.take_append_drop 24 words1, List.all_append, w_t1, ← List.take_append_drop 24 (words1.drop 24), List.all_append, w_t2, ← List.take_append_drop 24 ((words1.drop 24).drop 24), List.all_append, w_t3, ← List.take_append_drop 24 (((words1.drop 24).drop 24).drop 24), List.all_append, w_t4, ← List.take_append_drop 24 ((((words1.drop 24).drop 24).drop 24).drop 24), List.all_append, w_t5, w_t6]
  rfl
set_option maxRecDepth 65536 in
theorem w_case : (Jvm.Cond.and given_1 narrow_1).before args0 about1 = true := by decide +kernel
theorem w_applies : (headSpec (Jvm.Cond.code x code maxLocals ret :: tables_1) room_1).applies x e0.platform about1 = true :=
  (Spec.applies_iff w_frames).mpr ⟨w_running, w_runnable, w_alone, w_named, w_hears, w_ripe, w_room, w_tables⟩
theorem atStart : AtStart classFile x code maxLocals ret World_1 tables_1 room_1 Calls_1 rest_1 Pre_1 launch0 p0 e0 about1 theMethod args0 below0 :=
  ⟨lists_1, trivial, launch0.admits_env _ _ _, launch0.least_env, fairChoices_fair.cas, fairChoices_fair.clock, w_frames, w_args, w_heap, w_applies, trivial, trivial, w_case⟩
end start1
theorem witness_1 : WitnessClaimed_1 := ⟨start1.p0, start1.e0, start1.about1, start1.theMethod, start1.args0, start1.below0, start1.atStart⟩
end Jvm.Pilot.@@N@@
