import JvmDerived
import JvmDerived.Pilot.@@N@@Statement
import JvmDerived.Pilot.@@N@@Code
set_option linter.unusedVariables false
set_option linter.unusedSimpArgs false
namespace Jvm.Own
open Sem ClassFile Op Lib Jvm.Stand Jvm.Free Jvm.LawKit Jvm.RoadKit
/-! OWN 1: words of the sheet, resolved -/
abbrev AHeap := List (FieldType × List Value)
abbrev Ws := List Jvm.Cond
def rFld (ws : Ws) (own : String) (i : Nat) : Option (String × String × String) :=
  ws.findSome? fun d => match d with
    | .fieldLink o j C n t => if o = own ∧ j = i then some (C, n, t) else none
    | _ => none
def rCls (ws : Ws) (own : String) (i : Nat) : Option String :=
  ws.findSome? fun d => match d with
    | .classLink o j C => if o = own ∧ j = i then some C else none
    | _ => none
def rMth (ws : Ws) (own : String) (i : Nat) : Option MethodName :=
  ws.findSome? fun d => match d with
    | .methodLink o j y => if o = own ∧ j = i then some y else none
    | _ => none
def rCon (ws : Ws) (own : String) (i : Nat) : Option Int32 :=
  ws.findSome? fun d => match d with
    | .constant o j v => if o = own ∧ j = i then some v else none
    | _ => none
def rConL (ws : Ws) (own : String) (i : Nat) : Option Int64 :=
  ws.findSome? fun d => match d with
    | .constantLong o j v => if o = own ∧ j = i then some v else none
    | _ => none
def rInst (ws : Ws) (C : String) : Option Nat :=
  ws.findSome? fun d => match d with
    | .instantiable c n => if c = C then some n else none
    | _ => none
def rCode (ws : Ws) (y : MethodName) : Option (ByteArray × Nat × Option FieldType) :=
  ws.findSome? fun d => match d with
    | .code z b m r => if z = y then some (b, m, r) else none
    | _ => none
def hasInit (ws : Ws) (C : String) : Bool := ws.any fun d => match d with | .initialized c => c == C | _ => false
def hasArr (ws : Ws) (t : FieldType) : Bool := ws.any fun d => match d with | .arrayClass c => decide (c = t) | _ => false
def hasStat (ws : Ws) (y : MethodName) : Bool := ws.any fun d => match d with | .static z => decide (z = y) | _ => false
def hasIM (ws : Ws) (y : MethodName) : Bool := ws.any fun d => match d with | .instanceMethod z => decide (z = y) | _ => false
def hasPriv (ws : Ws) (y : MethodName) : Bool := ws.any fun d => match d with | .privateMethod z => decide (z = y) | _ => false
def hasDecl (ws : Ws) (y : MethodName) : Bool := ws.any fun d => match d with | .declares z => decide (z = y) | _ => false
def hasSel (ws : Ws) (y : MethodName) : Bool := ws.any fun d => match d with | .selects c z z' => decide (c = y.cls ∧ z = y ∧ z' = y) | _ => false
def hasLays (ws : Ws) (C n t : String) : Bool := ws.any fun d => match d with | .lays c o n' t' => decide (c = C ∧ o = C ∧ n' = n ∧ t' = t) | _ => false
def hasLaysF (ws : Ws) (C n t : String) : Bool := ws.any fun d => match d with | .laysFinal c o n' t' => decide (c = C ∧ o = C ∧ n' = n ∧ t' = t) | _ => false
def layE (C : String) : Jvm.Cond → Option (String × String)
  | .lays c o n t => if c = C ∧ o = C ∧ (parseFieldDescriptor t).isSome = true then some (n, t) else none
  | .laysFinal c o n t => if c = C ∧ o = C ∧ (parseFieldDescriptor t).isSome = true then some (n, t) else none
  | _ => none
def olay (ws : Ws) (C : String) : List (String × String) := ws.filterMap (layE C)
def idx (x : String × String) : List (String × String) → Option Nat
  | [] => none
  | y :: r => if y = x then some 0 else (idx x r).map (· + 1)
def fidx (ws : Ws) (C n t : String) : Option Nat := idx (n, t) (olay ws C)
def gfR (ws : Ws) (own : String) (i : Nat) : Option (String × Nat) :=
  match rFld ws own i with
  | some (C, n, t) => (fidx ws C n t).map fun j => (C, j)
  | none => none
def pfR (ws : Ws) (own mn : String) (i : Nat) : Option (String × Nat × FieldType) :=
  match rFld ws own i with
  | some (C, n, t) =>
    match fidx ws C n t, parseFieldDescriptor t with
    | some j, some ty => if (hasLays ws C n t || (hasLaysF ws C n t && own == C && mn == "<init>")) && (rInst ws C).isSome && (olay ws C).all (fun q => q.1 != n || q.2 == t) then some (C, j, ty) else none
    | _, _ => none
  | none => none
section Res
variable {ws : Ws} {own C n t : String} {i : Nat} {y : MethodName}
theorem rFld_mem (h : rFld ws own i = some (C, n, t)) : Jvm.Cond.fieldLink own i C n t ∈ ws := by
  obtain ⟨d, hd, e⟩ := List.exists_of_findSome?_eq_some h
  split at e
  · split at e
    · rename_i q; obtain ⟨rfl, rfl⟩ := q; cases e; exact hd
    · cases e
  · cases e
theorem rCls_mem (h : rCls ws own i = some C) : Jvm.Cond.classLink own i C ∈ ws := by
  obtain ⟨d, hd, e⟩ := List.exists_of_findSome?_eq_some h
  split at e
  · split at e
    · rename_i q; obtain ⟨rfl, rfl⟩ := q; cases e; exact hd
    · cases e
  · cases e
theorem rMth_mem (h : rMth ws own i = some y) : Jvm.Cond.methodLink own i y ∈ ws := by
  obtain ⟨d, hd, e⟩ := List.exists_of_findSome?_eq_some h
  split at e
  · split at e
    · rename_i q; obtain ⟨rfl, rfl⟩ := q; cases e; exact hd
    · cases e
  · cases e
theorem rCon_mem {v : Int32} (h : rCon ws own i = some v) : Jvm.Cond.constant own i v ∈ ws := by
  obtain ⟨d, hd, e⟩ := List.exists_of_findSome?_eq_some h
  split at e
  · split at e
    · rename_i q; obtain ⟨rfl, rfl⟩ := q; cases e; exact hd
    · cases e
  · cases e
theorem rConL_mem {v : Int64} (h : rConL ws own i = some v) : Jvm.Cond.constantLong own i v ∈ ws := by
  obtain ⟨d, hd, e⟩ := List.exists_of_findSome?_eq_some h
  split at e
  · split at e
    · rename_i q; obtain ⟨rfl, rfl⟩ := q; cases e; exact hd
    · cases e
  · cases e
theorem rInst_mem {k : Nat} (h : rInst ws C = some k) : Jvm.Cond.instantiable C k ∈ ws := by
  obtain ⟨d, hd, e⟩ := List.exists_of_findSome?_eq_some h
  split at e
  · split at e
    · rename_i q; subst q; cases e; exact hd
    · cases e
  · cases e
theorem rCode_mem {b : ByteArray} {k : Nat} {r : Option FieldType} (h : rCode ws y = some (b, k, r)) : Jvm.Cond.code y b k r ∈ ws := by
  obtain ⟨d, hd, e⟩ := List.exists_of_findSome?_eq_some h
  split at e
  · split at e
    · rename_i q; subst q; cases e; exact hd
    · cases e
  · cases e
theorem hasInit_mem (h : hasInit ws C = true) : Jvm.Cond.initialized C ∈ ws := by
  obtain ⟨d, hd, e⟩ := List.any_eq_true.mp h
  split at e
  · rw [beq_iff_eq] at e; subst e; exact hd
  · cases e
theorem hasArr_mem {ty : FieldType} (h : hasArr ws ty = true) : Jvm.Cond.arrayClass ty ∈ ws := by
  obtain ⟨d, hd, e⟩ := List.any_eq_true.mp h
  split at e
  · have e := of_decide_eq_true e; subst e; exact hd
  · cases e
theorem hasStat_mem (h : hasStat ws y = true) : Jvm.Cond.static y ∈ ws := by
  obtain ⟨d, hd, e⟩ := List.any_eq_true.mp h
  split at e
  · have e := of_decide_eq_true e; subst e; exact hd
  · cases e
theorem hasIM_mem (h : hasIM ws y = true) : Jvm.Cond.instanceMethod y ∈ ws := by
  obtain ⟨d, hd, e⟩ := List.any_eq_true.mp h
  split at e
  · have e := of_decide_eq_true e; subst e; exact hd
  · cases e
theorem hasPriv_mem (h : hasPriv ws y = true) : Jvm.Cond.privateMethod y ∈ ws := by
  obtain ⟨d, hd, e⟩ := List.any_eq_true.mp h
  split at e
  · have e := of_decide_eq_true e; subst e; exact hd
  · cases e
theorem hasDecl_mem (h : hasDecl ws y = true) : Jvm.Cond.declares y ∈ ws := by
  obtain ⟨d, hd, e⟩ := List.any_eq_true.mp h
  split at e
  · have e := of_decide_eq_true e; subst e; exact hd
  · cases e
theorem hasSel_mem (h : hasSel ws y = true) : Jvm.Cond.selects y.cls y y ∈ ws := by
  obtain ⟨d, hd, e⟩ := List.any_eq_true.mp h
  split at e
  · obtain ⟨rfl, rfl, rfl⟩ := of_decide_eq_true e; exact hd
  · cases e
theorem hasLays_mem (h : hasLays ws C n t = true) : Jvm.Cond.lays C C n t ∈ ws := by
  obtain ⟨d, hd, e⟩ := List.any_eq_true.mp h
  split at e
  · obtain ⟨rfl, rfl, rfl, rfl⟩ := of_decide_eq_true e; exact hd
  · cases e
theorem hasLaysF_mem (h : hasLaysF ws C n t = true) : Jvm.Cond.laysFinal C C n t ∈ ws := by
  obtain ⟨d, hd, e⟩ := List.any_eq_true.mp h
  split at e
  · obtain ⟨rfl, rfl, rfl, rfl⟩ := of_decide_eq_true e; exact hd
  · cases e
theorem lay_mem (h : (n, t) ∈ olay ws C) : (Jvm.Cond.lays C C n t ∈ ws ∨ Jvm.Cond.laysFinal C C n t ∈ ws) ∧ ∃ ty, parseFieldDescriptor t = some ty := by
  obtain ⟨d, hd, e⟩ := List.mem_filterMap.mp h
  unfold layE at e
  split at e
  · split at e
    · rename_i q; obtain ⟨rfl, rfl, q⟩ := q; cases e; exact ⟨Or.inl hd, Option.isSome_iff_exists.mp q⟩
    · cases e
  · split at e
    · rename_i q; obtain ⟨rfl, rfl, q⟩ := q; cases e; exact ⟨Or.inr hd, Option.isSome_iff_exists.mp q⟩
    · cases e
  · cases e
theorem idx_get {x : String × String} : ∀ {l : List (String × String)} {j : Nat}, idx x l = some j → l[j]? = some x
  | [], _, h => by cases h
  | y :: r, j, h => by
    unfold idx at h
    split at h
    · rename_i q; cases h; simp [q]
    · obtain ⟨j', h', rfl⟩ := Option.map_eq_some_iff.mp h
      simpa using idx_get h'
theorem fidx_mem {j : Nat} (h : fidx ws C n t = some j) : (n, t) ∈ olay ws C := List.mem_of_getElem? (idx_get h)
theorem fidx_inj {n' t' : String} {j : Nat} (h : fidx ws C n t = some j) (h' : fidx ws C n' t' = some j) : n = n' ∧ t = t' := by
  have := (idx_get h).symm.trans (idx_get h')
  simpa using this
theorem gfR_some {j : Nat} (h : gfR ws own i = some (C, j)) : ∃ n t, rFld ws own i = some (C, n, t) ∧ fidx ws C n t = some j := by
  unfold gfR at h
  split at h
  · rename_i C' n' t' q
    obtain ⟨j', h', e⟩ := Option.map_eq_some_iff.mp h
    cases e; exact ⟨_, _, q, h'⟩
  · cases h
theorem pfR_some {mn : String} {j : Nat} {ty : FieldType} (h : pfR ws own mn i = some (C, j, ty)) : ∃ n t, rFld ws own i = some (C, n, t) ∧ fidx ws C n t = some j ∧ parseFieldDescriptor t = some ty ∧
    (Jvm.Cond.lays C C n t ∈ ws ∨ (Jvm.Cond.laysFinal C C n t ∈ ws ∧ own = C ∧ mn = "<init>")) ∧ (∃ k, Jvm.Cond.instantiable C k ∈ ws) ∧ ∀ n' t', (n', t') ∈ olay ws C → n' ≠ n ∨ t' = t := by
  unfold pfR at h
  split at h
  · rename_i C' n' t' q
    split at h
    · rename_i j' ty' q1 q2
      split at h
      · rename_i g
        cases h
        simp only [Bool.and_eq_true, Bool.or_eq_true, beq_iff_eq, List.all_eq_true, bne_iff_ne, ne_eq] at g
        obtain ⟨⟨g1, g2⟩, g3⟩ := g
        obtain ⟨k, hk⟩ := Option.isSome_iff_exists.mp g2
        refine ⟨n', t', q, q1, q2, ?_, ⟨k, rInst_mem hk⟩, fun a b hab => g3 (a, b) hab⟩
        rcases g1 with g1 | ⟨⟨g1, g4⟩, g5⟩
        · exact Or.inl (hasLays_mem g1)
        · exact Or.inr ⟨hasLaysF_mem g1, g4, g5⟩
      · cases h
    · cases h
  · cases h
end Res
end Jvm.Own
namespace Jvm.Own
open Sem ClassFile Op Lib Jvm.Stand Jvm.Free Jvm.LawKit Jvm.RoadKit
/-! OWN 2: the abstract machine -/
abbrev XR := Option (Nat × List Slot × List Value)
def chk {α : Type} (a b : Nat) (x : Option α) : Option α := if a = b then x else none
def isI : Value → Bool | .int _ => true | _ => false
def isL : Value → Bool | .long _ => true | _ => false
def stl (ls : List Slot) (i : Nat) (v : Value) : Option (List Slot) := (storeLocals ls.toArray i v).map Array.toList
def ldV (p : Value → Bool) (nx i : Nat) (ls : List Slot) (st : List Value) : XR :=
  match ls[i]? with
  | some (.val v) => if p v = true then some (nx, ls, v :: st) else none
  | _ => none
def stV (p : Value → Bool) (nx i : Nat) (ls : List Slot) : List Value → XR
  | v :: r => if p v = true then (stl ls i v).map fun l' => (nx, l', r) else none
  | [] => none
def b2 (f : Int32 → Int32 → Int32) (nx : Nat) (ls : List Slot) : List Value → XR
  | .int y :: .int x :: r => some (nx, ls, .int (f x y) :: r)
  | _ => none
def d2 (f : Int32 → Int32 → Int32) (nx : Nat) (ls : List Slot) : List Value → XR
  | .int y :: .int x :: r => if y = 0 then none else some (nx, ls, .int (f x y) :: r)
  | _ => none
def u1 (f : Int32 → Int32) (nx : Nat) (ls : List Slot) : List Value → XR
  | .int x :: r => some (nx, ls, .int (f x) :: r)
  | _ => none
def l2 (f : Int64 → Int64 → Int64) (nx : Nat) (ls : List Slot) : List Value → XR
  | .long y :: .long x :: r => some (nx, ls, .long (f x y) :: r)
  | _ => none
def lsh (f : Int64 → Int32 → Int64) (nx : Nat) (ls : List Slot) : List Value → XR
  | .int y :: .long x :: r => some (nx, ls, .long (f x y) :: r)
  | _ => none
def jmp (pc : Nat) (o : Int) : Option Nat := if 0 ≤ (pc : Int) + o then some ((pc : Int) + o).toNat else none
def br (c : Bool) (pc : Nat) (o : Int) (ls : List Slot) (r : List Value) : XR :=
  if c = true then (jmp pc o).map fun q => (q, ls, r) else some (pc + 3, ls, r)
def sw (pc : Nat) (dflt low high : Int) (offs : Array Int) (ls : List Slot) : List Value → XR
  | .int i :: r => if i.toInt < low ∨ i.toInt > high then (jmp pc dflt).map fun q => (q, ls, r) else
      match offs[(i.toInt - low).toNat]? with
      | some o => (jmp pc o).map fun q => (q, ls, r)
      | none => none
  | _ => none
def xstep (ins : Instr) (len pc : Nat) (ls : List Slot) (st : List Value) : XR :=
  match ins with
  | .aload_n i => chk len 1 (ldV Value.isRef (pc + 1) i.val ls st)
  | .aload i => chk len 2 (ldV Value.isRef (pc + 2) i ls st)
  | .iload_n i => chk len 1 (ldV isI (pc + 1) i.val ls st)
  | .iload i => chk len 2 (ldV isI (pc + 2) i ls st)
  | .lload_n i => chk len 1 (ldV isL (pc + 1) i.val ls st)
  | .lload i => chk len 2 (ldV isL (pc + 2) i ls st)
  | .astore_n i => chk len 1 (stV Value.isRef (pc + 1) i.val ls st)
  | .astore i => chk len 2 (stV Value.isRef (pc + 2) i ls st)
  | .istore_n i => chk len 1 (stV isI (pc + 1) i.val ls st)
  | .istore i => chk len 2 (stV isI (pc + 2) i ls st)
  | .lstore_n i => chk len 1 (stV isL (pc + 1) i.val ls st)
  | .lstore i => chk len 2 (stV isL (pc + 2) i ls st)
  | .iconst i => chk len 1 (some (pc + 1, ls, .int (Int32.ofInt i) :: st))
  | .bipush i => chk len 2 (some (pc + 2, ls, .int (Int8.ofInt i).toInt32 :: st))
  | .sipush i => chk len 3 (some (pc + 3, ls, .int (Int16.ofInt i).toInt32 :: st))
  | .lconst i => chk len 1 (some (pc + 1, ls, .long (Int64.ofNat i) :: st))
  | .iadd => chk len 1 (b2 (fun x y => x + y) (pc + 1) ls st)
  | .isub => chk len 1 (b2 (fun x y => x - y) (pc + 1) ls st)
  | .imul => chk len 1 (b2 (fun x y => x * y) (pc + 1) ls st)
  | .iand => chk len 1 (b2 (fun x y => x &&& y) (pc + 1) ls st)
  | .ior => chk len 1 (b2 (fun x y => x ||| y) (pc + 1) ls st)
  | .ixor => chk len 1 (b2 (fun x y => x ^^^ y) (pc + 1) ls st)
  | .ishl => chk len 1 (b2 (fun x y => x <<< (y &&& 31)) (pc + 1) ls st)
  | .ishr => chk len 1 (b2 (fun x y => x >>> (y &&& 31)) (pc + 1) ls st)
  | .iushr => chk len 1 (b2 XT.ushr (pc + 1) ls st)
  | .idiv => chk len 1 (d2 (fun x y => x / y) (pc + 1) ls st)
  | .irem => chk len 1 (d2 (fun x y => x % y) (pc + 1) ls st)
  | .ineg => chk len 1 (u1 (fun x => -x) (pc + 1) ls st)
  | .i2b => chk len 1 (u1 (fun x => x.toInt8.toInt32) (pc + 1) ls st)
  | .i2c => chk len 1 (u1 (fun x => x.toUInt32.toUInt16.toUInt32.toInt32) (pc + 1) ls st)
  | .ladd => chk len 1 (l2 (fun x y => x + y) (pc + 1) ls st)
  | .lsub => chk len 1 (l2 (fun x y => x - y) (pc + 1) ls st)
  | .lmul => chk len 1 (l2 (fun x y => x * y) (pc + 1) ls st)
  | .land => chk len 1 (l2 (fun x y => x &&& y) (pc + 1) ls st)
  | .lor => chk len 1 (l2 (fun x y => x ||| y) (pc + 1) ls st)
  | .lxor => chk len 1 (l2 (fun x y => x ^^^ y) (pc + 1) ls st)
  | .lshl => chk len 1 (lsh (fun x y => x <<< (y.toInt64 &&& 63)) (pc + 1) ls st)
  | .lshr => chk len 1 (lsh (fun x y => x >>> (y.toInt64 &&& 63)) (pc + 1) ls st)
  | .lushr => chk len 1 (lsh XT.ushrL (pc + 1) ls st)
  | .lneg => chk len 1 (match st with | .long x :: r => some (pc + 1, ls, .long (-x) :: r) | _ => none)
  | .i2l => chk len 1 (match st with | .int x :: r => some (pc + 1, ls, .long x.toInt64 :: r) | _ => none)
  | .l2i => chk len 1 (match st with | .long x :: r => some (pc + 1, ls, .int x.toInt32 :: r) | _ => none)
  | .lcmp => chk len 1 (match st with | .long y :: .long x :: r => some (pc + 1, ls, .int (XT.cmpL x y) :: r) | _ => none)
  | .iinc i cst => chk len 3 (match ls[i]? with | some (.val (.int x)) => (stl ls i (.int (x + Int32.ofInt cst))).map fun l' => (pc + 3, l', st) | _ => none)
  | .dup => chk len 1 (match st with | x :: r => if x.category = 1 then some (pc + 1, ls, x :: x :: r) else none | _ => none)
  | .dup2 => chk len 1 (match st with
      | .long x :: r => some (pc + 1, ls, .long x :: .long x :: r)
      | x :: y :: r => if x.category = 1 ∧ y.category = 1 then some (pc + 1, ls, x :: y :: x :: y :: r) else none
      | _ => none)
  | .pop => chk len 1 (match st with | x :: r => if x.category = 1 then some (pc + 1, ls, r) else none | _ => none)
  | .goto o => chk len 3 ((jmp pc o).map fun q => (q, ls, st))
  | .ifCond cd o => chk len 3 (match st with | .int x :: r => br (ifCond.holds cd x) pc o ls r | _ => none)
  | .if_icmp cd o => chk len 3 (match st with | .int y :: .int x :: r => br (if_icmp.holds cd x y) pc o ls r | _ => none)
  | .tableswitch dflt low high offs => sw pc dflt low high offs ls st
  | _ => none
abbrev HR := Option (Nat × List Value × AHeap)
def putv : FieldType → Value → Option Value
  | .int, .int x => some (.int x)
  | .boolean, .int x => some (.int (nar .boolean x))
  | .byte, .int x => some (.int (nar .byte x))
  | .char, .int x => some (.int (nar .char x))
  | .short, .int x => some (.int (nar .short x))
  | .long, .long x => some (.long x)
  | .array _, .ref a => some (.ref a)
  | _, _ => none
def dflt (q : String × String) : Value := match parseFieldDescriptor q.2 with | some ty => defaultValue ty | none => .null
def hGet (ws : Ws) (own : String) (i pc : Nat) (H : AHeap) : List Value → HR
  | .ref a :: r =>
    match gfR ws own i, H[a]? with
    | some (C, j), some (.object C', vs) => if C = C' then (vs[j]?).map fun v => (pc + 3, v :: r, H) else none
    | _, _ => none
  | _ => none
def hPut (ws : Ws) (k : Nat) (own mn : String) (i pc : Nat) (H : AHeap) : List Value → HR
  | v :: .ref a :: r =>
    match pfR ws own mn i, H[a]? with
    | some (C, j, ty), some (.object C', vs) => if C = C' ∧ k ≤ a ∧ j < vs.length then (putv ty v).map fun v' => (pc + 3, r, H.set a (.object C', vs.set j v')) else none
    | _, _ => none
  | _ => none
def hNew (ws : Ws) (own : String) (i pc : Nat) (H : AHeap) (st : List Value) : HR :=
  match rCls ws own i with
  | some C => if (rInst ws C).isSome = true ∧ hasInit ws C = true then some (pc + 3, .ref H.length :: st, H ++ [(.object C, (olay ws C).map dflt)]) else none
  | none => none
def hNewA (ws : Ws) (aty : ArrayType) (pc : Nat) (H : AHeap) : List Value → HR
  | .int n :: r => if hasArr ws (newarray.typeOf aty) = true ∧ ¬ n < 0 ∧ n.toNatClampNeg * 8 ≤ 536870912 then
      some (pc + 2, .ref H.length :: r, H ++ [(.array (newarray.typeOf aty), List.replicate n.toNatClampNeg (defaultValue (newarray.typeOf aty)))]) else none
  | _ => none
def hLd (ok : FieldType → Bool) (pc : Nat) (H : AHeap) : List Value → HR
  | .int j :: .ref a :: r =>
    match H[a]? with
    | some (.array ty, vs) => if ok ty = true ∧ ¬ j < 0 then (vs[j.toNatClampNeg]?).map fun v => (pc + 1, v :: r, H) else none
    | _ => none
  | _ => none
def hSt (ok : FieldType → Bool) (k pc : Nat) (H : AHeap) : List Value → HR
  | v :: .int j :: .ref a :: r =>
    match H[a]? with
    | some (.array ty, vs) => if ok ty = true ∧ k ≤ a ∧ ¬ j < 0 ∧ j.toNatClampNeg < vs.length then (putv ty v).map fun v' => (pc + 1, r, H.set a (.array ty, vs.set j.toNatClampNeg v')) else none
    | _ => none
  | _ => none
def hLen (pc : Nat) (H : AHeap) : List Value → HR
  | .ref a :: r =>
    match H[a]? with
    | some (.array _, vs) => some (pc + 1, .int vs.length.toInt32 :: r, H)
    | _ => none
  | _ => none
def okT (t u : FieldType) : Bool := decide (u = t)
def okB (u : FieldType) : Bool := decide (u = .byte) || decide (u = .boolean)
def hstep (ws : Ws) (k : Nat) (y : MethodName) (ins : Instr) (len pc : Nat) (st : List Value) (H : AHeap) : HR :=
  match ins with
  | .getfield i => chk len 3 (hGet ws y.cls i pc H st)
  | .putfield i => chk len 3 (hPut ws k y.cls y.name i pc H st)
  | .new i => chk len 3 (hNew ws y.cls i pc H st)
  | .newarray aty => chk len 2 (hNewA ws aty pc H st)
  | .iaload => chk len 1 (hLd (okT .int) pc H st)
  | .caload => chk len 1 (hLd (okT .char) pc H st)
  | .laload => chk len 1 (hLd (okT .long) pc H st)
  | .baload => chk len 1 (hLd okB pc H st)
  | .iastore => chk len 1 (hSt (okT .int) k pc H st)
  | .castore => chk len 1 (hSt (okT .char) k pc H st)
  | .lastore => chk len 1 (hSt (okT .long) k pc H st)
  | .bastore => chk len 1 (hSt okB k pc H st)
  | .arraylength => chk len 1 (hLen pc H st)
  | .ldc i => chk len 2 ((rCon ws y.cls i).map fun v => (pc + 2, .int v :: st, H))
  | .ldc_w i => chk len 3 ((rCon ws y.cls i).map fun v => (pc + 3, .int v :: st, H))
  | .ldc2_w i => chk len 3 ((rConL ws y.cls i).map fun v => (pc + 3, .long v :: st, H))
  | _ => none
def ent : List Value → List Slot
  | [] => []
  | v :: r => if v.category = 2 then .val v :: .second :: ent r else .val v :: ent r
def entry (as : List Value) (mx : Nat) : List Slot := ent as ++ List.replicate (mx - (ent as).length) .unset
def wsum (st : List Value) : Nat := (st.map fun v => v.category).sum
abbrev Dn := List (MethodName × Nat × Nat)
def dnOf (dn : Dn) (y : MethodName) : Option (Nat × Nat) := dn.findSome? fun q => if q.1 = y then some q.2 else none
/-- what a methodref says: callee, its code, max_locals, return, number of parameters, slack for what lies under -/
def cR (ws : Ws) (dn : Dn) (y : MethodName) (i : Nat) : Option (MethodName × ByteArray × Nat × Option FieldType × Nat × Nat) :=
  match rMth ws y.cls i with
  | none => none
  | some y' =>
    match rCode ws y', dnOf dn y', dnOf dn y, parseMethodDescriptor y'.desc with
    | some (b, mx, r), some (f', l'), some (f, l), some sig =>
      if hasInit ws y'.cls = true ∧ Jvm.plainName y'.cls = true ∧ y'.cls ≠ "java/lang/invoke/MethodHandle" ∧ y'.cls ≠ "java/lang/invoke/VarHandle" ∧ f' + 1 ≤ f ∧ mx + 11 + l' ≤ l then
        some (y', b, mx, r, sig.parameters.length, l - (mx + 11 + l')) else none
    | _, _, _, _ => none
def sR (ws : Ws) (dn : Dn) (y : MethodName) (i : Nat) : Option (MethodName × ByteArray × Nat × Option FieldType × Nat × Nat) :=
  match cR ws dn y i with
  | some q => if hasStat ws q.1 = true then some q else none
  | none => none
def nR (ws : Ws) (dn : Dn) (y : MethodName) (i : Nat) : Option (MethodName × ByteArray × Nat × Option FieldType × Nat × Nat) :=
  match cR ws dn y i with
  | some q => if q.1.name = "<init>" ∧ hasIM ws q.1 = true ∧ q.2.2.2.1 = none then some q else none
  | none => none
/-- the first: is it private? -/
def vR (ws : Ws) (dn : Dn) (y : MethodName) (i : Nat) : Option (Bool × MethodName × ByteArray × Nat × Option FieldType × Nat × Nat) :=
  match cR ws dn y i with
  | some q => if hasIM ws q.1 = true then
      (if hasPriv ws q.1 = true ∧ (rInst ws q.1.cls).isSome = true then some (true, q) else if hasDecl ws q.1 = true ∧ hasSel ws q.1 = true then some (false, q) else none) else none
  | none => none
/-- Object.<init>: how many words may lie under it -/
def oR (ws : Ws) (dn : Dn) (y : MethodName) (i : Nat) : Option Nat :=
  match rMth ws y.cls i, rCode ws Lib.objectInit, dnOf dn y with
  | some y', some (b, mx, r), some (f, l) =>
    if y' = Lib.objectInit ∧ hasIM ws Lib.objectInit = true ∧ b.data = #[0xb1] ∧ mx = 1 ∧ r = none ∧ 1 ≤ f ∧ 12 ≤ l then some (l - 12) else none
  | _, _, _ => none
abbrev Call := MethodName × ByteArray × Option FieldType × List Slot × List Value
/-- returns and calls -/
def cstep (ws : Ws) (dn : Dn) (y : MethodName) (ret : Option FieldType) (ins : Instr) (len pc : Nat) (ls : List Slot) (st : List Value) (H : AHeap) : Option (Option Value ⊕ (Nat × List Slot × List Value × AHeap) ⊕ Call) :=
  match ins with
  | .ireturn => chk len 1 (match st, ret with
      | .int z :: _, some t => if t = .int ∨ t = .boolean ∨ t = .byte ∨ t = .char ∨ t = .short then some (.inl (some (.int (nar t z)))) else none
      | _, _ => none)
  | .lreturn => chk len 1 (match st, ret with
      | [.long z], some .long => some (.inl (some (.long z)))
      | _, _ => none)
  | .return_ => chk len 1 (match st, ret with
      | [], none => some (.inl none)
      | _, _ => none)
  | .invokestatic i => chk len 3 (match sR ws dn y i with
      | some (y', b, mx, r, na, sl) =>
        if na ≤ st.length ∧ wsum (st.drop na) ≤ sl ∧ (ent (st.take na).reverse).length ≤ mx then
          some (.inr (.inr (y', b, r, entry (st.take na).reverse mx, st.drop na)))
        else none
      | none => none)
  | .invokespecial i => chk len 3 (match oR ws dn y i with
      | some sl => (match st with
          | .ref _ :: r => if wsum r ≤ sl then some (.inr (.inl (pc + 3, ls, r, H))) else none
          | _ => none)
      | none => match nR ws dn y i with
        | some (y', b, mx, r, na, sl) =>
          (match st.drop na with
          | .ref a :: rest =>
            if wsum rest ≤ sl ∧ (ent (.ref a :: (st.take na).reverse)).length ≤ mx ∧ na ≤ st.length then
              some (.inr (.inr (y', b, r, entry (.ref a :: (st.take na).reverse) mx, rest)))
            else none
          | _ => none)
        | none => none)
  | .invokevirtual i => chk len 3 (match vR ws dn y i with
      | some (pv, y', b, mx, r, na, sl) =>
        (match st.drop na with
        | .ref a :: rest =>
          (match H[a]? with
          | some (.object C, _) =>
            if (pv = true ∨ C = y'.cls) ∧ wsum rest ≤ sl ∧ (ent (.ref a :: (st.take na).reverse)).length ≤ mx ∧ na ≤ st.length then
              some (.inr (.inr (y', b, r, entry (.ref a :: (st.take na).reverse) mx, rest)))
            else none
          | _ => none)
        | _ => none)
      | none => none)
  | _ => none
/-- what the machine does next: it returns, it steps, it calls -/
def act (ws : Ws) (dn : Dn) (k : Nat) (y : MethodName) (bytes : ByteArray) (ret : Option FieldType) (pc : Nat) (ls : List Slot) (st : List Value) (H : AHeap) : Option (Option Value ⊕ (Nat × List Slot × List Value × AHeap) ⊕ Call) :=
  match decode bytes pc with
  | .error _ => none
  | .ok (ins, len) =>
    match xstep ins len pc ls st with
    | some q => some (.inr (.inl (q.1, q.2.1, q.2.2, H)))
    | none => match hstep ws k y ins len pc st H with
      | some q => some (.inr (.inl (q.1, ls, q.2.1, q.2.2)))
      | none => cstep ws dn y ret ins len pc ls st H
def run (ws : Ws) (dn : Dn) (k : Nat) : Nat → MethodName → ByteArray → Option FieldType → Nat → List Slot → List Value → AHeap → Option (Option Value × AHeap)
  | 0, _, _, _, _, _, _, _ => none
  | n + 1, y, bytes, ret, pc, ls, st, H =>
    match act ws dn k y bytes ret pc ls st H with
    | none => none
    | some (.inl v) => some (v, H)
    | some (.inr (.inl (pc', ls', st', H'))) => run ws dn k n y bytes ret pc' ls' st' H'
    | some (.inr (.inr (y', b, r, en, rest))) =>
      match run ws dn k n y' b r 0 en [] H with
      | some (v, H1) => run ws dn k n y bytes ret (pc + 3) ls (v.toList ++ rest) H1
      | none => none
end Jvm.Own
namespace Jvm.Own
open Sem ClassFile Op Lib Jvm.Stand Jvm.Free Jvm.LawKit Jvm.RoadKit
/-! OWN 3: the abstract machine's plain steps are the machine's -/
def ren (f : Nat → Nat) : Value → Value
  | .ref a => .ref (f a)
  | v => v
def renS (f : Nat → Nat) : Slot → Slot
  | .val v => .val (ren f v)
  | s => s
abbrev fr (f : Nat → Nat) (m : MethodId) (pc : Nat) (ls : List Slot) (st : List Value) : JFrame := mkF m pc (ls.map (renS f)).toArray (st.map (ren f))
theorem ren_cat (f : Nat → Nat) (v : Value) : (ren f v).category = v.category := by cases v <;> rfl
theorem ren_isRef (f : Nat → Nat) (v : Value) : (ren f v).isRef = v.isRef := by cases v <;> rfl
theorem isI_int {v : Value} (h : isI v = true) : ∃ x, v = .int x := by cases v <;> first | exact ⟨_, rfl⟩ | cases h
theorem isL_long {v : Value} (h : isL v = true) : ∃ x, v = .long x := by cases v <;> first | exact ⟨_, rfl⟩ | cases h
theorem chk_some {α : Type} {a b : Nat} {x : Option α} {r : α} (h : chk a b x = some r) : a = b ∧ x = some r := by
  unfold chk at h
  split at h
  · exact ⟨by assumption, h⟩
  · cases h
theorem loc_get {f : Nat → Nat} {ls : List Slot} {i : Nat} {s : Slot} (h : ls[i]? = some s) : ((ls.map (renS f)).toArray)[i]? = some (renS f s) := by
  rw [List.getElem?_toArray, List.getElem?_map, h]; rfl
theorem setAt_ren (f : Nat → Nat) (l : Array Slot) (i : Nat) (x : Slot) : setAt (l.map (renS f)) i (renS f x) = (setAt l i x).map fun a => a.map (renS f) := by
  unfold setAt
  rw [Array.size_map]
  split
  · rw [Option.map_some, Array.map_setIfInBounds]
  · rfl
theorem storeSelf_ren (f : Nat → Nat) (l : Array Slot) (i : Nat) (v : Value) : storeSelf (l.map (renS f)) i (ren f v) = (storeSelf l i v).map fun a => a.map (renS f) := by
  have h0 : setAt (l.map (renS f)) i (.val (ren f v)) = _ := setAt_ren f l i (.val v)
  simp only [storeSelf, h0, ren_cat]
  cases setAt l i (.val v) with
  | none => rfl
  | some l1 =>
    simp only [Option.map_some, Option.bind_eq_bind, Option.bind_some, bind_pure_comp]
    split
    · rw [Array.getElem?_map]
      cases l1[i + 1]? with
      | none => rfl
      | some s =>
        simp only [Option.map_some, Option.bind_some]
        cases s with
        | unset => exact setAt_ren f l1 (i + 1) .second
        | second => exact setAt_ren f l1 (i + 1) .second
        | val w =>
          simp only [renS, ren_cat]
          split
          · have h1 : setAt (l1.map (renS f)) (i + 2) .unset = _ := setAt_ren f l1 (i + 2) .unset
            rw [h1]
            cases setAt l1 (i + 2) .unset with
            | none => rfl
            | some l2 => exact setAt_ren f l2 (i + 1) .second
          · exact setAt_ren f l1 (i + 1) .second
    · rfl
theorem storeLocals_ren (f : Nat → Nat) (l : Array Slot) (i : Nat) (v : Value) : storeLocals (l.map (renS f)) i (ren f v) = (storeLocals l i v).map fun a => a.map (renS f) := by
  simp only [storeLocals, Array.getElem?_map]
  cases l[i]? with
  | none => rfl
  | some s =>
    simp only [Option.map_some, Option.bind_eq_bind, Option.bind_some]
    cases s with
    | unset => exact storeSelf_ren f l i v
    | second =>
      have h1 : setAt (l.map (renS f)) (i - 1) .unset = _ := setAt_ren f l (i - 1) .unset
      simp only [renS, h1]
      cases setAt l (i - 1) .unset with
      | none => rfl
      | some l2 => exact storeSelf_ren f l2 i v
    | val w =>
      simp only [renS, ren_cat]
      split
      · have h1 : setAt (l.map (renS f)) (i + 1) .unset = _ := setAt_ren f l (i + 1) .unset
        rw [h1]
        cases setAt l (i + 1) .unset with
        | none => rfl
        | some l2 => exact storeSelf_ren f l2 i v
      · exact storeSelf_ren f l i v
theorem stl_ren {f : Nat → Nat} {ls l' : List Slot} {i : Nat} {v : Value} (h : stl ls i v = some l') : storeLocals (ls.map (renS f)).toArray i (ren f v) = some (l'.map (renS f)).toArray := by
  unfold stl at h
  obtain ⟨a, ha, rfl⟩ := Option.map_eq_some_iff.mp h
  have := storeLocals_ren f ls.toArray i v
  rw [ha] at this
  rw [← List.map_toArray, this]
  simp [← Array.toList_inj]
theorem setAt_size {l l' : Array Slot} {i : Nat} {x : Slot} (h : setAt l i x = some l') : l'.size = l.size := by
  unfold setAt at h
  split at h
  · cases h; simp
  · cases h
theorem storeSelf_size {l l' : Array Slot} {i : Nat} {v : Value} (h : storeSelf l i v = some l') : l'.size = l.size := by
  simp only [storeSelf, Option.bind_eq_bind, Option.bind_eq_some_iff] at h
  obtain ⟨l1, h1, h⟩ := h
  have e1 := setAt_size h1
  split at h
  · obtain ⟨s, -, h⟩ := Option.bind_eq_some_iff.mp h
    split at h
    · split at h
      · obtain ⟨l2, h2, h⟩ := Option.bind_eq_some_iff.mp h
        rw [setAt_size h, setAt_size h2, e1]
      · rw [setAt_size h, e1]
    · rw [setAt_size h, e1]
  · cases h; exact e1
theorem storeLocals_size {l l' : Array Slot} {i : Nat} {v : Value} (h : storeLocals l i v = some l') : l'.size = l.size := by
  simp only [storeLocals, Option.bind_eq_bind, Option.bind_eq_some_iff] at h
  obtain ⟨s, -, h⟩ := h
  split at h
  · obtain ⟨l2, h2, h⟩ := Option.bind_eq_some_iff.mp h
    rw [storeSelf_size h, setAt_size h2]
  · split at h
    · obtain ⟨l2, h2, h⟩ := Option.bind_eq_some_iff.mp h
      rw [storeSelf_size h, setAt_size h2]
    · exact storeSelf_size h
  · exact storeSelf_size h
theorem stl_size {ls l' : List Slot} {i : Nat} {v : Value} (h : stl ls i v = some l') : l'.length = ls.length := by
  unfold stl at h
  obtain ⟨a, ha, rfl⟩ := Option.map_eq_some_iff.mp h
  have := storeLocals_size ha
  simpa using this
theorem ldV_some {p : Value → Bool} {nx i : Nat} {ls : List Slot} {st : List Value} {q : Nat × List Slot × List Value} (h : ldV p nx i ls st = some q) : ∃ v, ls[i]? = some (.val v) ∧ p v = true ∧ q = (nx, ls, v :: st) := by
  unfold ldV at h
  split at h
  · rename_i v hv
    split at h
    · cases h; exact ⟨v, hv, by assumption, rfl⟩
    · cases h
  · cases h
theorem stV_some {p : Value → Bool} {nx i : Nat} {ls : List Slot} {st : List Value} {q : Nat × List Slot × List Value} (h : stV p nx i ls st = some q) : ∃ v r l', st = v :: r ∧ p v = true ∧ stl ls i v = some l' ∧ q = (nx, l', r) := by
  unfold stV at h
  split at h
  · split at h
    · obtain ⟨l', h1, h2⟩ := Option.map_eq_some_iff.mp h
      exact ⟨_, _, l', rfl, by assumption, h1, h2.symm⟩
    · cases h
  · cases h
theorem b2_some {f : Int32 → Int32 → Int32} {nx : Nat} {ls : List Slot} {st : List Value} {q : Nat × List Slot × List Value} (h : b2 f nx ls st = some q) : ∃ x y r, st = .int y :: .int x :: r ∧ q = (nx, ls, .int (f x y) :: r) := by
  unfold b2 at h
  split at h
  · cases h; exact ⟨_, _, _, rfl, rfl⟩
  · cases h
theorem d2_some {f : Int32 → Int32 → Int32} {nx : Nat} {ls : List Slot} {st : List Value} {q : Nat × List Slot × List Value} (h : d2 f nx ls st = some q) : ∃ x y r, st = .int y :: .int x :: r ∧ y ≠ 0 ∧ q = (nx, ls, .int (f x y) :: r) := by
  unfold d2 at h
  split at h
  · split at h
    · cases h
    · cases h; exact ⟨_, _, _, rfl, by assumption, rfl⟩
  · cases h
theorem u1_some {f : Int32 → Int32} {nx : Nat} {ls : List Slot} {st : List Value} {q : Nat × List Slot × List Value} (h : u1 f nx ls st = some q) : ∃ x r, st = .int x :: r ∧ q = (nx, ls, .int (f x) :: r) := by
  unfold u1 at h
  split at h
  · cases h; exact ⟨_, _, rfl, rfl⟩
  · cases h
theorem l2_some {f : Int64 → Int64 → Int64} {nx : Nat} {ls : List Slot} {st : List Value} {q : Nat × List Slot × List Value} (h : l2 f nx ls st = some q) : ∃ x y r, st = .long y :: .long x :: r ∧ q = (nx, ls, .long (f x y) :: r) := by
  unfold l2 at h
  split at h
  · cases h; exact ⟨_, _, _, rfl, rfl⟩
  · cases h
theorem lsh_some {f : Int64 → Int32 → Int64} {nx : Nat} {ls : List Slot} {st : List Value} {q : Nat × List Slot × List Value} (h : lsh f nx ls st = some q) : ∃ x y r, st = .int y :: .long x :: r ∧ q = (nx, ls, .long (f x y) :: r) := by
  unfold lsh at h
  split at h
  · cases h; exact ⟨_, _, _, rfl, rfl⟩
  · cases h
theorem jmp_some {pc q : Nat} {o : Int} (h : jmp pc o = some q) : 0 ≤ (pc : Int) + o ∧ ((pc : Int) + o).toNat = q := by
  unfold jmp at h
  split at h
  · cases h; exact ⟨by assumption, rfl⟩
  · cases h
theorem br_some {c : Bool} {pc : Nat} {o : Int} {ls : List Slot} {r : List Value} {q : Nat × List Slot × List Value} (h : br c pc o ls r = some q) : (c = true ∧ ∃ t, 0 ≤ (pc : Int) + o ∧ ((pc : Int) + o).toNat = t ∧ q = (t, ls, r)) ∨ (c = false ∧ q = (pc + 3, ls, r)) := by
  unfold br at h
  split at h
  · obtain ⟨t, h1, h2⟩ := Option.map_eq_some_iff.mp h
    obtain ⟨h3, h4⟩ := jmp_some h1
    exact Or.inl ⟨by assumption, t, h3, h4, h2.symm⟩
  · rename_i hc; cases h; exact Or.inr ⟨by simpa using hc, rfl⟩
section X
variable {tb : Tables} [Ours tb] {e : Env} {below : List Frame} {T target : State} {m : MethodId} {c : Code}
set_option maxHeartbeats 4000000 in
theorem xstep_sound (h : At T m c below) (hx : tb.exec = Jvm.exec) (f : Nat → Nat) {ins : Instr} {len pc : Nat} {ls : List Slot} {st : List Value} {q : Nat × List Slot × List Value}
    (hd : decode c.code pc = .ok (ins, len)) (hs : xstep ins len pc ls st = some q) (hr : Steps tb e below (T.setTop (fr f m q.1 q.2.1 q.2.2)) target) : Steps tb e below (T.setTop (fr f m pc ls st)) target := by
  unfold xstep at hs
  split at hs
  · obtain ⟨rfl, hs⟩ := chk_some hs; obtain ⟨v, h1, h2, rfl⟩ := ldV_some hs
    exact XS.aloadN h hx rfl hd (loc_get h1) (by rw [ren_isRef]; exact h2) hr
  · obtain ⟨rfl, hs⟩ := chk_some hs; obtain ⟨v, h1, h2, rfl⟩ := ldV_some hs
    exact XS.aload h hx rfl hd (loc_get h1) (by rw [ren_isRef]; exact h2) hr
  · obtain ⟨rfl, hs⟩ := chk_some hs; obtain ⟨v, h1, h2, rfl⟩ := ldV_some hs; obtain ⟨x, rfl⟩ := isI_int h2
    exact XS.iloadN h hx rfl hd (loc_get (f := f) h1) hr
  · obtain ⟨rfl, hs⟩ := chk_some hs; obtain ⟨v, h1, h2, rfl⟩ := ldV_some hs; obtain ⟨x, rfl⟩ := isI_int h2
    exact XS.iload h hx rfl hd (loc_get (f := f) h1) hr
  · obtain ⟨rfl, hs⟩ := chk_some hs; obtain ⟨v, h1, h2, rfl⟩ := ldV_some hs; obtain ⟨x, rfl⟩ := isL_long h2
    exact XT.lloadN h hx rfl hd (loc_get (f := f) h1) hr
  · obtain ⟨rfl, hs⟩ := chk_some hs; obtain ⟨v, h1, h2, rfl⟩ := ldV_some hs; obtain ⟨x, rfl⟩ := isL_long h2
    exact XT.lload h hx rfl hd (loc_get (f := f) h1) hr
  · obtain ⟨rfl, hs⟩ := chk_some hs; obtain ⟨v, r, l', rfl, h2, h3, rfl⟩ := stV_some hs
    exact XS.astoreN h hx rfl hd rfl (by rw [ren_isRef]; exact h2) (stl_ren h3) hr
  · obtain ⟨rfl, hs⟩ := chk_some hs; obtain ⟨v, r, l', rfl, h2, h3, rfl⟩ := stV_some hs
    exact XS.astore h hx rfl hd rfl (by rw [ren_isRef]; exact h2) (stl_ren h3) hr
  · obtain ⟨rfl, hs⟩ := chk_some hs; obtain ⟨v, r, l', rfl, h2, h3, rfl⟩ := stV_some hs; obtain ⟨x, rfl⟩ := isI_int h2
    exact XS.istoreN h hx rfl hd rfl (stl_ren (f := f) h3) hr
  · obtain ⟨rfl, hs⟩ := chk_some hs; obtain ⟨v, r, l', rfl, h2, h3, rfl⟩ := stV_some hs; obtain ⟨x, rfl⟩ := isI_int h2
    exact XS.istore h hx rfl hd rfl (stl_ren (f := f) h3) hr
  · obtain ⟨rfl, hs⟩ := chk_some hs; obtain ⟨v, r, l', rfl, h2, h3, rfl⟩ := stV_some hs; obtain ⟨x, rfl⟩ := isL_long h2
    exact XT.lstoreN h hx rfl hd rfl (stl_ren (f := f) h3) hr
  · obtain ⟨rfl, hs⟩ := chk_some hs; obtain ⟨v, r, l', rfl, h2, h3, rfl⟩ := stV_some hs; obtain ⟨x, rfl⟩ := isL_long h2
    exact XT.lstore h hx rfl hd rfl (stl_ren (f := f) h3) hr
  · obtain ⟨rfl, hs⟩ := chk_some hs; cases hs
    exact XS.iconst h hx rfl hd hr
  · obtain ⟨rfl, hs⟩ := chk_some hs; cases hs
    exact XS.bipush h hx rfl hd hr
  · obtain ⟨rfl, hs⟩ := chk_some hs; cases hs
    exact XS.sipush h hx rfl hd hr
  · obtain ⟨rfl, hs⟩ := chk_some hs; cases hs
    exact XT.lconst h hx rfl hd hr
  · obtain ⟨rfl, hs⟩ := chk_some hs; obtain ⟨x, y, r, rfl, rfl⟩ := b2_some hs
    exact XS.iadd h hx rfl hd rfl hr
  · obtain ⟨rfl, hs⟩ := chk_some hs; obtain ⟨x, y, r, rfl, rfl⟩ := b2_some hs
    exact XS.isub h hx rfl hd rfl hr
  · obtain ⟨rfl, hs⟩ := chk_some hs; obtain ⟨x, y, r, rfl, rfl⟩ := b2_some hs
    exact XS.imul h hx rfl hd rfl hr
  · obtain ⟨rfl, hs⟩ := chk_some hs; obtain ⟨x, y, r, rfl, rfl⟩ := b2_some hs
    exact XS.iand h hx rfl hd rfl hr
  · obtain ⟨rfl, hs⟩ := chk_some hs; obtain ⟨x, y, r, rfl, rfl⟩ := b2_some hs
    exact XT.ior h hx rfl hd rfl hr
  · obtain ⟨rfl, hs⟩ := chk_some hs; obtain ⟨x, y, r, rfl, rfl⟩ := b2_some hs
    exact XT.ixor h hx rfl hd rfl hr
  · obtain ⟨rfl, hs⟩ := chk_some hs; obtain ⟨x, y, r, rfl, rfl⟩ := b2_some hs
    exact XT.ishl h hx rfl hd rfl hr
  · obtain ⟨rfl, hs⟩ := chk_some hs; obtain ⟨x, y, r, rfl, rfl⟩ := b2_some hs
    exact XT.ishr h hx rfl hd rfl hr
  · obtain ⟨rfl, hs⟩ := chk_some hs; obtain ⟨x, y, r, rfl, rfl⟩ := b2_some hs
    exact XT.iushr h hx rfl hd rfl hr
  · obtain ⟨rfl, hs⟩ := chk_some hs; obtain ⟨x, y, r, rfl, h2, rfl⟩ := d2_some hs
    exact XS.idiv h hx rfl hd rfl h2 hr
  · obtain ⟨rfl, hs⟩ := chk_some hs; obtain ⟨x, y, r, rfl, h2, rfl⟩ := d2_some hs
    refine XS.irem h hx rfl hd rfl h2 ?_
    have q : x - x / y * y = x % y := irem_eq_mod x y
    rw [q]; exact hr
  · obtain ⟨rfl, hs⟩ := chk_some hs; obtain ⟨x, r, rfl, rfl⟩ := u1_some hs
    exact XS.ineg h hx rfl hd rfl hr
  · obtain ⟨rfl, hs⟩ := chk_some hs; obtain ⟨x, r, rfl, rfl⟩ := u1_some hs
    exact XT.i2b h hx rfl hd rfl hr
  · obtain ⟨rfl, hs⟩ := chk_some hs; obtain ⟨x, r, rfl, rfl⟩ := u1_some hs
    exact XT.i2c h hx rfl hd rfl hr
  · obtain ⟨rfl, hs⟩ := chk_some hs; obtain ⟨x, y, r, rfl, rfl⟩ := l2_some hs
    exact XT.ladd h hx rfl hd rfl hr
  · obtain ⟨rfl, hs⟩ := chk_some hs; obtain ⟨x, y, r, rfl, rfl⟩ := l2_some hs
    exact XT.lsub h hx rfl hd rfl hr
  · obtain ⟨rfl, hs⟩ := chk_some hs; obtain ⟨x, y, r, rfl, rfl⟩ := l2_some hs
    exact XT.lmul h hx rfl hd rfl hr
  · obtain ⟨rfl, hs⟩ := chk_some hs; obtain ⟨x, y, r, rfl, rfl⟩ := l2_some hs
    exact XT.land h hx rfl hd rfl hr
  · obtain ⟨rfl, hs⟩ := chk_some hs; obtain ⟨x, y, r, rfl, rfl⟩ := l2_some hs
    exact XT.lor h hx rfl hd rfl hr
  · obtain ⟨rfl, hs⟩ := chk_some hs; obtain ⟨x, y, r, rfl, rfl⟩ := l2_some hs
    exact XT.lxor h hx rfl hd rfl hr
  · obtain ⟨rfl, hs⟩ := chk_some hs; obtain ⟨x, y, r, rfl, rfl⟩ := lsh_some hs
    exact XT.lshl h hx rfl hd rfl hr
  · obtain ⟨rfl, hs⟩ := chk_some hs; obtain ⟨x, y, r, rfl, rfl⟩ := lsh_some hs
    exact XT.lshr h hx rfl hd rfl hr
  · obtain ⟨rfl, hs⟩ := chk_some hs; obtain ⟨x, y, r, rfl, rfl⟩ := lsh_some hs
    exact XT.lushr h hx rfl hd rfl hr
  · obtain ⟨rfl, hs⟩ := chk_some hs
    split at hs
    · cases hs; exact XT.lneg h hx rfl hd rfl hr
    · cases hs
  · obtain ⟨rfl, hs⟩ := chk_some hs
    split at hs
    · cases hs; exact XT.i2l h hx rfl hd rfl hr
    · cases hs
  · obtain ⟨rfl, hs⟩ := chk_some hs
    split at hs
    · cases hs; exact XT.l2i h hx rfl hd rfl hr
    · cases hs
  · obtain ⟨rfl, hs⟩ := chk_some hs
    split at hs
    · cases hs; exact XT.lcmp h hx rfl hd rfl hr
    · cases hs
  · obtain ⟨rfl, hs⟩ := chk_some hs
    split at hs
    · rename_i x h1
      obtain ⟨l', h2, rfl⟩ := Option.map_eq_some_iff.mp hs
      exact XS.iinc h hx rfl hd (loc_get (f := f) h1) (stl_ren (f := f) h2) hr
    · cases hs
  · obtain ⟨rfl, hs⟩ := chk_some hs
    split at hs
    · split at hs
      · rename_i hc; cases hs; exact XS.dup h hx rfl hd rfl (by rw [ren_cat]; exact hc) hr
      · cases hs
    · cases hs
  · obtain ⟨rfl, hs⟩ := chk_some hs
    split at hs
    · cases hs; exact XT.dup2L h hx rfl hd rfl hr
    · split at hs
      · rename_i hc; cases hs; exact XT.dup2 h hx rfl hd rfl (by rw [ren_cat]; exact hc.1) (by rw [ren_cat]; exact hc.2) hr
      · cases hs
    · cases hs
  · obtain ⟨rfl, hs⟩ := chk_some hs
    split at hs
    · split at hs
      · rename_i hc; cases hs; exact XT.pop h hx rfl hd rfl (by rw [ren_cat]; exact hc) hr
      · cases hs
    · cases hs
  · obtain ⟨rfl, hs⟩ := chk_some hs
    obtain ⟨t, h1, rfl⟩ := Option.map_eq_some_iff.mp hs
    obtain ⟨h2, h3⟩ := jmp_some h1
    exact XS.goto h hx rfl rfl hd h2 h3 hr
  · obtain ⟨rfl, hs⟩ := chk_some hs
    split at hs
    · rcases br_some hs with ⟨hc, t, h1, h2, rfl⟩ | ⟨hc, rfl⟩
      · exact XS.ifYes h hx rfl rfl hd rfl hc h1 h2 hr
      · exact XS.ifNo h hx rfl hd rfl hc hr
    · cases hs
  · obtain ⟨rfl, hs⟩ := chk_some hs
    split at hs
    · rcases br_some hs with ⟨hc, t, h1, h2, rfl⟩ | ⟨hc, rfl⟩
      · exact XS.icmpYes h hx rfl rfl hd rfl hc h1 h2 hr
      · exact XS.icmpNo h hx rfl hd rfl hc hr
    · cases hs
  · unfold sw at hs
    split at hs
    · split at hs
      · rename_i hc
        obtain ⟨t, h1, rfl⟩ := Option.map_eq_some_iff.mp hs
        obtain ⟨h2, h3⟩ := jmp_some h1
        exact XS.tswOut h hx rfl rfl hd rfl hc h2 h3 hr
      · rename_i hc
        split at hs
        · rename_i o ho
          obtain ⟨t, h1, rfl⟩ := Option.map_eq_some_iff.mp hs
          obtain ⟨h2, h3⟩ := jmp_some h1
          exact XS.tswIn h hx rfl rfl hd rfl hc ho h2 h3 hr
        · cases hs
    · cases hs
  · cases hs
end X
theorem xstep_size {ins : Instr} {len pc : Nat} {ls : List Slot} {st : List Value} {q : Nat × List Slot × List Value} (hs : xstep ins len pc ls st = some q) : q.2.1.length = ls.length := by
  unfold xstep at hs
  split at hs
  all_goals first
    | (obtain ⟨rfl, hs⟩ := chk_some hs; obtain ⟨v, h1, h2, rfl⟩ := ldV_some hs; rfl)
    | (obtain ⟨rfl, hs⟩ := chk_some hs; obtain ⟨v, r, l', rfl, h2, h3, rfl⟩ := stV_some hs; exact stl_size h3)
    | (obtain ⟨rfl, hs⟩ := chk_some hs; cases hs; rfl)
    | (obtain ⟨rfl, hs⟩ := chk_some hs; obtain ⟨x, y, r, rfl, rfl⟩ := b2_some hs; rfl)
    | (obtain ⟨rfl, hs⟩ := chk_some hs; obtain ⟨x, y, r, rfl, h2, rfl⟩ := d2_some hs; rfl)
    | (obtain ⟨rfl, hs⟩ := chk_some hs; obtain ⟨x, r, rfl, rfl⟩ := u1_some hs; rfl)
    | (obtain ⟨rfl, hs⟩ := chk_some hs; obtain ⟨x, y, r, rfl, rfl⟩ := l2_some hs; rfl)
    | (obtain ⟨rfl, hs⟩ := chk_some hs; obtain ⟨x, y, r, rfl, rfl⟩ := lsh_some hs; rfl)
    | (obtain ⟨rfl, hs⟩ := chk_some hs; split at hs <;> first | (cases hs; rfl) | (cases hs; done))
    | (obtain ⟨rfl, hs⟩ := chk_some hs; split at hs <;> first | (obtain ⟨l', h2, rfl⟩ := Option.map_eq_some_iff.mp hs; exact stl_size h2) | (cases hs; done))
    | (obtain ⟨rfl, hs⟩ := chk_some hs; split at hs <;> first | (split at hs <;> first | (cases hs; rfl) | (cases hs; done)) | (cases hs; rfl) | (cases hs; done))
    | (obtain ⟨rfl, hs⟩ := chk_some hs; obtain ⟨t, h1, rfl⟩ := Option.map_eq_some_iff.mp hs; rfl)
    | (obtain ⟨rfl, hs⟩ := chk_some hs; split at hs <;> first | (rcases br_some hs with ⟨hc, t, h1, h2, rfl⟩ | ⟨hc, rfl⟩ <;> rfl) | (cases hs; done))
    | (unfold sw at hs; split at hs <;> first | (cases hs; done) | (split at hs <;> first | (obtain ⟨t, h1, rfl⟩ := Option.map_eq_some_iff.mp hs; rfl) | (split at hs <;> first | (obtain ⟨t, h1, rfl⟩ := Option.map_eq_some_iff.mp hs; rfl) | (cases hs; done))))
    | (cases hs; done)
end Jvm.Own
namespace Jvm.Own
open Sem ClassFile Op Lib Jvm.Stand Jvm.Free Jvm.LawKit Jvm.RoadKit
/-! OWN 4: the heap's steps -/
def adr (k sa n0 i : Nat) : Nat := if i < k then sa else n0 + (i - k)
def SimO (Z : State) (ws : Ws) (f : Nat → Nat) (h : Heap) (a : Addr) : FieldType × List Value → Prop
  | (.object C, vs) => Exa Z h a C ∧ ∀ n t j, fidx ws C n t = some j → ∃ v, vs[j]? = some v ∧ Fld Z h a C n t (ren f v)
  | (.array ty, vs) => ∃ c : Cell, Arr Z h a c ty ∧ c.slots = (vs.map (ren f)).toArray
  | _ => False
def Sim (Z : State) (ws : Ws) (k sa n0 : Nat) (H : AHeap) (h : Heap) : Prop :=
  h.size = n0 + (H.length - k) ∧ k ≤ H.length ∧ k ≤ 1 ∧ (1 ≤ k → sa < n0) ∧ ∀ i o, H[i]? = some o → SimO Z ws (adr k sa n0) h (adr k sa n0 i) o
def cost (ws : Ws) : FieldType × List Value → Nat
  | (.object C, _) => (rInst ws C).getD 0
  | (_, vs) => vs.length
def tot (ws : Ws) (H : AHeap) : Nat := (H.map (cost ws)).sum
theorem adr_inj {k sa n0 i j : Nat} (hk : k ≤ 1) (hs : 1 ≤ k → sa < n0) (e : adr k sa n0 i = adr k sa n0 j) : i = j := by
  unfold adr at e; split at e <;> split at e <;> omega
theorem adr_ge {k sa n0 a : Nat} (h : k ≤ a) : n0 ≤ adr k sa n0 a := by
  unfold adr; rw [if_neg (by omega)]; omega
theorem tot_app (ws : Ws) (H : AHeap) (o : FieldType × List Value) : tot ws (H ++ [o]) = tot ws H + cost ws o := by simp [tot]
theorem tot_set {ws : Ws} : ∀ {H : AHeap} {a : Nat} {o o' : FieldType × List Value}, H[a]? = some o → cost ws o' = cost ws o → tot ws (H.set a o') = tot ws H
  | [], _, _, _, h, _ => by cases h
  | x :: r, 0, o, o', h, e => by
    simp only [List.getElem?_cons_zero, Option.some.injEq] at h; subst h
    simp [tot, e]
  | x :: r, a + 1, o, o', h, e => by
    have := tot_set (ws := ws) (H := r) (a := a) (o := o) (o' := o') (by simpa using h) e
    simp only [tot, List.set_cons_succ, List.map_cons, List.sum_cons] at this ⊢
    rw [this]
theorem ren_dflt (f : Nat → Nat) (ty : FieldType) : ren f (defaultValue ty) = defaultValue ty := by cases ty <;> rfl
section Facts
variable {Z : State} {ws : Ws} {f : Nat → Nat} {h h' : Heap} {a b : Addr} {o : FieldType × List Value} {sl : Nat} {v : Value}
theorem SimO.ext (E : Ext h h') (S : SimO Z ws f h a o) : SimO Z ws f h' a o := by
  unfold SimO at S ⊢
  split at S
  · exact ⟨S.1.ext E, fun n t j q => by obtain ⟨v, h1, h2⟩ := S.2 n t j q; exact ⟨v, h1, h2.ext E⟩⟩
  · obtain ⟨c, h1, h2⟩ := S; exact ⟨c, h1.ext E, h2⟩
  · exact S.elim
theorem SimO.other (W : Wr h h' b sl v) (ne : a ≠ b) (S : SimO Z ws f h a o) : SimO Z ws f h' a o := by
  unfold SimO at S ⊢
  split at S
  · exact ⟨S.1.wr W, fun n t j q => by obtain ⟨v, h1, h2⟩ := S.2 n t j q; exact ⟨v, h1, h2.other W (Or.inl ne)⟩⟩
  · obtain ⟨c, h1, h2⟩ := S; exact ⟨c, h1.other W ne, h2⟩
  · exact S.elim
theorem Sim.push {k sa n0 : Nat} {H : AHeap} (S : Sim Z ws k sa n0 H h) (E : Ext h h') (hz : h'.size = h.size + 1) (O : SimO Z ws (adr k sa n0) h' h.size o) : Sim Z ws k sa n0 (H ++ [o]) h' := by
  obtain ⟨h1, h2, h3, h4, h5⟩ := S
  refine ⟨by rw [hz, h1, List.length_append, List.length_singleton]; omega, by rw [List.length_append]; omega, h3, h4, fun i o' q => ?_⟩
  rcases Nat.lt_trichotomy i H.length with g | g | g
  · rw [List.getElem?_append_left g] at q; exact (h5 i o' q).ext E
  · subst g
    rw [List.getElem?_append_right (Nat.le_refl _), Nat.sub_self] at q
    cases q
    have e : adr k sa n0 H.length = h.size := by unfold adr; rw [if_neg (by omega), h1]
    rw [e]; exact O
  · rw [List.getElem?_eq_none (by simp; omega)] at q; cases q
theorem Sim.next {k sa n0 : Nat} {H : AHeap} (S : Sim Z ws k sa n0 H h) : h.size = adr k sa n0 H.length := by
  obtain ⟨h1, h2, -⟩ := S
  unfold adr; rw [if_neg (by omega), h1]
theorem Wr.upd {k sa n0 i : Nat} {H : AHeap} {o' : FieldType × List Value} (S : Sim Z ws k sa n0 H h) (W : Wr h h' (adr k sa n0 i) sl v) (O : SimO Z ws (adr k sa n0) h' (adr k sa n0 i) o') : Sim Z ws k sa n0 (H.set i o') h' := by
  obtain ⟨h1, h2, h3, h4, h5⟩ := S
  refine ⟨by rw [W.size, h1, List.length_set], by rw [List.length_set]; exact h2, h3, h4, fun j q hq => ?_⟩
  by_cases e : i = j
  · subst e
    rw [List.getElem?_set_self' ] at hq
    cases hi : H[i]? with
    | none => rw [hi] at hq; cases hq
    | some x => rw [hi] at hq; cases hq; exact O
  · rw [List.getElem?_set_ne e] at hq
    exact (h5 j q hq).other W fun g => e (adr_inj h3 h4 g).symm
end Facts
theorem putv_ok {ty : FieldType} {v v' : Value} (f : Nat → Nat) (h : putv ty v = some v') : narrow ty (ren f v) = ren f v' ∧ fits ty (ren f v') = true := by
  unfold putv at h
  split at h
  · cases h; exact ⟨rfl, rfl⟩
  · cases h; exact ⟨rfl, fits_nar_bool _⟩
  · cases h; exact ⟨rfl, fits_nar_byte _⟩
  · cases h; exact ⟨rfl, fits_nar_char _⟩
  · cases h; exact ⟨rfl, fits_nar_short _⟩
  · cases h; exact ⟨rfl, rfl⟩
  · cases h; exact ⟨rfl, rfl⟩
  · cases h
theorem size_set (c : Cell) (j : Nat) (v : Value) (f : Nat → Nat) {vs : List Value} {v' : Value} (e : c.slots = (vs.map (ren f)).toArray) (q : v = ren f v') : (c.setSlot j v).slots = ((vs.set j v').map (ren f)).toArray := by
  subst q
  show c.slots.setIfInBounds j (ren f v') = _
  rw [e, List.setIfInBounds_toArray, List.map_set]
section H
variable {p : Program} {l : Launch} {e : Env} {R : Room} {s : State} {m : MethodId} {args : Array Value} {below : List Frame} {meth : Method} {c : Code} {T : State} {locs : List Loc} {cells slots : Nat}
  {Z : State} {a0 : Array Value} {ws : Ws} {k sa n0 : Nat} {y : MethodName} {pc : Nat} {ls : List Slot} {st : List Value} {H : AHeap}
/-- the point behind one step -/
def Beh (p : Program) (l : Launch) (e : Env) (R : Room) (s : State) (m : MethodId) (args : Array Value) (below : List Frame) (meth : Method) (c : Code) (T : State) (Z : State) (ws : Ws) (k sa n0 cells slots : Nat) (H : AHeap) (g : JFrame) (pc' : Nat) (ls' : List Slot) (st' : List Value) (H' : AHeap) : Prop :=
  ∃ T' locs', Stand p l e R s m args below meth c T' locs' (cells + (H'.length - H.length)) (slots + (tot ws H' - tot ws H)) ∧ Sim Z ws k sa n0 H' T'.heap ∧ Fr n0 locs' ∧
    ∀ target, Steps p.tables e below (T'.setTop (fr (adr k sa n0) m pc' ls' st')) target → Steps p.tables e below (T.setTop g) target
theorem Beh.stay {g : JFrame} {pc' : Nat} {st' : List Value} {T' : State} (X : Stand p l e R s m args below meth c T' locs cells slots) (S : Sim Z ws k sa n0 H T'.heap) (N : Fr n0 locs)
    (h : ∀ target, Steps p.tables e below (T'.setTop (fr (adr k sa n0) m pc' ls st')) target → Steps p.tables e below (T.setTop g) target) : Beh p l e R s m args below meth c T Z ws k sa n0 cells slots H g pc' ls st' H :=
  ⟨T', locs, by rw [Nat.sub_self, Nat.sub_self]; exact X, S, N, h⟩
theorem hGet_sound (hw : ∀ d ∈ ws, d.before a0 Z = true) (X : Stand p l e R s m args below meth c T locs cells slots) (hx : p.tables.exec = Jvm.exec) (hZ : Z.Warmed39 s.vm) (hown : s.vm.findClass y.cls = some m.cls)
    {i : Nat} (hd : decode c.code pc = .ok (.getfield i, 3)) {q : Nat × List Value × AHeap} (hs : hGet ws y.cls i pc H st = some q) (S : Sim Z ws k sa n0 H T.heap) (N : Fr n0 locs) :
    Beh p l e R s m args below meth c T Z ws k sa n0 cells slots H (fr (adr k sa n0) m pc ls st) q.1 ls q.2.1 q.2.2 := by
  unfold hGet at hs
  split at hs
  · rename_i a r
    split at hs
    · rename_i C j C' vs q1 q2
      split at hs
      · rename_i hC; subst hC
        obtain ⟨v, hv, rfl⟩ := Option.map_eq_some_iff.mp hs
        obtain ⟨n, t, r1, r2⟩ := gfR_some q1
        obtain ⟨v', hv', F⟩ := (S.2.2.2.2 a _ q2).2 n t j r2
        cases hv.symm.trans hv'
        obtain ⟨T', X', e', st'⟩ := getF X hx hZ hown (host := "") (Or.inl (hw _ (rFld_mem r1))) Via.refl rfl F (g := fr (adr k sa n0) m pc ls (.ref a :: r)) rfl rfl hd
        exact Beh.stay X' (by rw [e']; exact S) N st'
      · cases hs
    · cases hs
  · cases hs
theorem hPut_sound (hw : ∀ d ∈ ws, d.before a0 Z = true) (X : Stand p l e R s m args below meth c T locs cells slots) (hx : p.tables.exec = Jvm.exec) (hZ : Z.Warmed39 s.vm) (hown : s.vm.findClass y.cls = some m.cls) (hnm : meth.name = y.name)
    {i : Nat} (hd : decode c.code pc = .ok (.putfield i, 3)) {q : Nat × List Value × AHeap} (hs : hPut ws k y.cls y.name i pc H st = some q) (S : Sim Z ws k sa n0 H T.heap) (N : Fr n0 locs) :
    Beh p l e R s m args below meth c T Z ws k sa n0 cells slots H (fr (adr k sa n0) m pc ls st) q.1 ls q.2.1 q.2.2 := by
  unfold hPut at hs
  split at hs
  · rename_i v a r
    split at hs
    · rename_i C j ty C' vs q1 q2
      split at hs
      · rename_i hC; obtain ⟨rfl, hk, hj⟩ := hC
        obtain ⟨v', hv, rfl⟩ := Option.map_eq_some_iff.mp hs
        obtain ⟨n, t, r1, r2, r3, r4, ⟨ki, r5⟩, r6⟩ := pfR_some q1
        have SO := S.2.2.2.2 a _ q2
        obtain ⟨w, hw', F⟩ := SO.2 n t j r2
        obtain ⟨g1, g2⟩ := putv_ok (adr k sa n0) hv
        obtain ⟨T', h', X', e', W, st'⟩ := putFN X hx hZ hown (hw _ (rFld_mem r1)) Via.refl rfl F SO.1 (r4.imp (fun q => hw _ q) fun q => ⟨hw _ q.1, q.2.1, hnm.trans q.2.2⟩) (hw _ r5) r3 g1 g2 (g := fr (adr k sa n0) m pc ls (v :: .ref a :: r)) rfl rfl hd
        have LL : ∀ {n' t' : String}, (n', t') ∈ olay ws C → Laid Z a0 C C n' t' := fun q => (lay_mem q).1.imp (fun q => hw _ q) (fun q => hw _ q)
        have O' : SimO Z ws (adr k sa n0) h' (adr k sa n0 a) (.object C, vs.set j v') := by
          refine ⟨SO.1.wr W, fun n' t' j' q' => ?_⟩
          obtain ⟨u, hu, F'⟩ := SO.2 n' t' j' q'
          by_cases ej : j = j'
          · subst ej
            obtain ⟨rfl, rfl⟩ := fidx_inj r2 q'
            exact ⟨v', by rw [List.getElem?_set_self hj], F.same W⟩
          · refine ⟨u, by rw [List.getElem?_set_ne ej]; exact hu, F'.other W (Or.inr ?_)⟩
            obtain ⟨-, ty', p'⟩ := lay_mem (fidx_mem q')
            refine slot_ne (LL (fidx_mem q')) (LL (fidx_mem r2)) (fun en => ?_) p' r3
            rcases r6 n' t' (fidx_mem q') with g | g
            · exact g en
            · subst en g; rw [r2] at q'; exact ej (Option.some.inj q')
        refine ⟨T', _, ?_, by rw [e']; exact Wr.upd S W O', Fr.snoc X' N (adr_ge hk), st'⟩
        show Stand p l e R s m args below meth c T' _ (cells + ((H.set a (.object C, vs.set j v')).length - H.length)) (slots + (tot ws (H.set a (.object C, vs.set j v')) - tot ws H))
        rw [List.length_set, tot_set (o := (.object C, vs)) (o' := (.object C, vs.set j v')) q2 rfl, Nat.sub_self, Nat.sub_self]
        exact X'
      · cases hs
    · cases hs
  · cases hs
theorem hNew_sound (hw : ∀ d ∈ ws, d.before a0 Z = true) (X : Stand p l e R s m args below meth c T locs cells slots) (hx : p.tables.exec = Jvm.exec) (hZ : Z.Warmed39 s.vm) (hown : s.vm.findClass y.cls = some m.cls)
    {i : Nat} (hd : decode c.code pc = .ok (.new i, 3)) {q : Nat × List Value × AHeap} (hs : hNew ws y.cls i pc H st = some q) (S : Sim Z ws k sa n0 H T.heap) (N : Fr n0 locs)
    (hc : cells + (q.2.2.length - H.length) ≤ R.cells) (hl : slots + (tot ws q.2.2 - tot ws H) ≤ R.slots) (hz0 : T.heap.size = s.heap.size + cells) :
    Beh p l e R s m args below meth c T Z ws k sa n0 cells slots H (fr (adr k sa n0) m pc ls st) q.1 ls q.2.1 q.2.2 := by
  unfold hNew at hs
  split at hs
  · rename_i C q1
    split at hs
    · rename_i g; cases hs
      obtain ⟨ki, hki⟩ := Option.isSome_iff_exists.mp g.1
      have ec : (H ++ [(FieldType.object C, (olay ws C).map dflt)]).length - H.length = 1 := by simp
      have es : tot ws (H ++ [(FieldType.object C, (olay ws C).map dflt)]) - tot ws H = ki := by
        rw [tot_app]; simp [cost, hki]
      dsimp only at hc hl ⊢
      rw [ec] at hc; rw [es] at hl
      have hz := S.next
      obtain ⟨T', h', X', e', E, A, D, -, st'⟩ := newO X hx hZ hown (hw _ (rCls_mem q1)) (hw _ (rInst_mem hki)) (hw _ (hasInit_mem g.2)) rfl (g := fr (adr k sa n0) m pc ls st) rfl hd hc hl
      have hz' : h'.size = T.heap.size + 1 := by
        have u1 := X'.heapSize
        have a1 : (T.heap.size : Nat) < h'.size := A.lt
        rw [e'] at u1
        omega
      refine ⟨T', locs, by rw [ec, es]; exact X', ?_, N, ?_⟩
      · rw [e']
        refine S.push E hz' ⟨A, fun n t j q => ?_⟩
        have hm := fidx_mem q
        obtain ⟨q2, ty, q3⟩ := lay_mem hm
        refine ⟨dflt (n, t), by rw [List.getElem?_map, idx_get q]; rfl, ?_⟩
        have F := D (O := C) (nm := n) (d := t) (q2.imp (fun q => hw _ q) (fun q => hw _ q)) q3
        have e3 : ren (adr k sa n0) (dflt (n, t)) = defaultValue ty := by simp only [dflt, q3, ren_dflt]
        rw [e3]; exact F
      · intro target ht
        rw [hz] at st'
        exact st' target ht
    · cases hs
  · cases hs
theorem hNewA_sound (hw : ∀ d ∈ ws, d.before a0 Z = true) (X : Stand p l e R s m args below meth c T locs cells slots) (hx : p.tables.exec = Jvm.exec) (hZ : Z.Warmed39 s.vm)
    {aty : ArrayType} (hd : decode c.code pc = .ok (.newarray aty, 2)) {q : Nat × List Value × AHeap} (hs : hNewA ws aty pc H st = some q) (S : Sim Z ws k sa n0 H T.heap) (N : Fr n0 locs)
    (hc : cells + (q.2.2.length - H.length) ≤ R.cells) (hl : slots + (tot ws q.2.2 - tot ws H) ≤ R.slots) (hz0 : T.heap.size = s.heap.size + cells) :
    Beh p l e R s m args below meth c T Z ws k sa n0 cells slots H (fr (adr k sa n0) m pc ls st) q.1 ls q.2.1 q.2.2 := by
  unfold hNewA at hs
  split at hs
  · rename_i n r
    split at hs
    · rename_i g; cases hs
      obtain ⟨g1, g2, g3⟩ := g
      have ec : (H ++ [(FieldType.array (newarray.typeOf aty), List.replicate n.toNatClampNeg (defaultValue (newarray.typeOf aty)))]).length - H.length = 1 := by simp
      have es : tot ws (H ++ [(FieldType.array (newarray.typeOf aty), List.replicate n.toNatClampNeg (defaultValue (newarray.typeOf aty)))]) - tot ws H = n.toNatClampNeg := by
        rw [tot_app]; simp [cost]
      dsimp only at hc hl ⊢
      rw [ec] at hc; rw [es] at hl
      have hz := S.next
      obtain ⟨T', h', cA, X', e', E, A, st'⟩ := newP X hx hZ (hw _ (hasArr_mem g1)) rfl (g := fr (adr k sa n0) m pc ls (.int n :: r)) rfl hd rfl g2 (cap := n.toNatClampNeg) (Nat.le_refl _) g3 hc hl
      have hz' : h'.size = T.heap.size + 1 := by
        have u1 := X'.heapSize
        have a1 : (T.heap.size : Nat) < h'.size := A.lt
        rw [e'] at u1
        omega
      refine ⟨T', locs, by rw [ec, es]; exact X', ?_, N, ?_⟩
      · rw [e']
        refine S.push E hz' ⟨_, A, ?_⟩
        simp [newA, ren_dflt]
      · intro target ht
        rw [hz] at st'
        exact st' target ht
    · cases hs
  · cases hs
theorem hLd_some {ok : FieldType → Bool} {q : Nat × List Value × AHeap} (hs : hLd ok pc H st = some q) : ∃ j a r ty vs v, st = .int j :: .ref a :: r ∧ H[a]? = some (.array ty, vs) ∧ ok ty = true ∧ ¬ j < 0 ∧ vs[j.toNatClampNeg]? = some v ∧ q = (pc + 1, v :: r, H) := by
  unfold hLd at hs
  split at hs
  · split at hs
    · split at hs
      · rename_i g
        obtain ⟨v, h1, h2⟩ := Option.map_eq_some_iff.mp hs
        exact ⟨_, _, _, _, _, v, rfl, by assumption, g.1, g.2, h1, h2.symm⟩
      · cases hs
    · cases hs
  · cases hs
theorem hSt_some {ok : FieldType → Bool} {q : Nat × List Value × AHeap} (hs : hSt ok k pc H st = some q) : ∃ v j a r ty vs v', st = v :: .int j :: .ref a :: r ∧ H[a]? = some (.array ty, vs) ∧ ok ty = true ∧ k ≤ a ∧ ¬ j < 0 ∧ j.toNatClampNeg < vs.length ∧ putv ty v = some v' ∧ q = (pc + 1, r, H.set a (.array ty, vs.set j.toNatClampNeg v')) := by
  unfold hSt at hs
  split at hs
  · split at hs
    · split at hs
      · rename_i g
        obtain ⟨v, h1, h2⟩ := Option.map_eq_some_iff.mp hs
        exact ⟨_, _, _, _, _, _, v, rfl, by assumption, g.1, g.2.1, g.2.2.1, g.2.2.2, h1, h2.symm⟩
      · cases hs
    · cases hs
  · cases hs
theorem hLen_some {q : Nat × List Value × AHeap} (hs : hLen pc H st = some q) : ∃ a r ty vs, st = .ref a :: r ∧ H[a]? = some (.array ty, vs) ∧ q = (pc + 1, .int vs.length.toInt32 :: r, H) := by
  unfold hLen at hs
  split at hs
  · split at hs
    · cases hs; exact ⟨_, _, _, _, rfl, by assumption, rfl⟩
    · cases hs
  · cases hs
/-- behind a store into an array -/
theorem st_beh {T' : State} {h' : Heap} {a j : Nat} {ty : FieldType} {vs : List Value} {v' : Value} {r : List Value} {g : JFrame} (X' : Stand p l e R s m args below meth c T' (locs ++ [⟨adr k sa n0 a, j⟩]) cells slots) (e' : T'.heap = h') (W : Wr T.heap h' (adr k sa n0 a) j (ren (adr k sa n0) v'))
    (S : Sim Z ws k sa n0 H T.heap) (N : Fr n0 locs) (q2 : H[a]? = some (.array ty, vs)) (hk : k ≤ a)
    (st' : ∀ target, Steps p.tables e below (T'.setTop (fr (adr k sa n0) m (pc + 1) ls r)) target → Steps p.tables e below (T.setTop g) target) :
    Beh p l e R s m args below meth c T Z ws k sa n0 cells slots H g (pc + 1) ls r (H.set a (.array ty, vs.set j v')) := by
  obtain ⟨cl, A, es⟩ := S.2.2.2.2 a _ q2
  refine ⟨T', _, ?_, by rw [e']; exact Wr.upd S W ⟨_, A.same W, size_set cl j _ _ es rfl⟩, Fr.snoc X' N (adr_ge hk), st'⟩
  rw [List.length_set, tot_set (o := (.array ty, vs)) (o' := (.array ty, vs.set j v')) q2 (by simp [cost]), Nat.sub_self, Nat.sub_self]
  exact X'
set_option maxHeartbeats 1000000 in
theorem hstep_sound (hw : ∀ d ∈ ws, d.before a0 Z = true) (X : Stand p l e R s m args below meth c T locs cells slots) (hx : p.tables.exec = Jvm.exec) (hZ : Z.Warmed39 s.vm) (hown : s.vm.findClass y.cls = some m.cls) (hnm : meth.name = y.name)
    {ins : Instr} {len : Nat} (hd : decode c.code pc = .ok (ins, len)) {q : Nat × List Value × AHeap} (hs : hstep ws k y ins len pc st H = some q) (S : Sim Z ws k sa n0 H T.heap) (N : Fr n0 locs)
    (hc : cells + (q.2.2.length - H.length) ≤ R.cells) (hl : slots + (tot ws q.2.2 - tot ws H) ≤ R.slots) (hz0 : T.heap.size = s.heap.size + cells) :
    Beh p l e R s m args below meth c T Z ws k sa n0 cells slots H (fr (adr k sa n0) m pc ls st) q.1 ls q.2.1 q.2.2 := by
  unfold hstep at hs
  split at hs
  · obtain ⟨rfl, hs⟩ := chk_some hs
    exact hGet_sound hw X hx hZ hown hd hs S N
  · obtain ⟨rfl, hs⟩ := chk_some hs
    exact hPut_sound hw X hx hZ hown hnm hd hs S N
  · obtain ⟨rfl, hs⟩ := chk_some hs
    exact hNew_sound hw X hx hZ hown hd hs S N hc hl hz0
  · obtain ⟨rfl, hs⟩ := chk_some hs
    exact hNewA_sound hw X hx hZ hd hs S N hc hl hz0
  · obtain ⟨rfl, hs⟩ := chk_some hs
    obtain ⟨j, a, r, ty, vs, v, rfl, q2, ho, hj, hv, rfl⟩ := hLd_some hs
    obtain rfl : ty = _ := of_decide_eq_true ho
    obtain ⟨cl, A, es⟩ := S.2.2.2.2 a _ q2
    have hlt := (List.getElem?_eq_some_iff.mp hv).1
    exact Beh.stay X S N fun target ht => X.iaload hx (j := j) (v := ren (adr k sa n0) v) A.1 (State.isArrayOf_alike hZ.alike A.2.1) A.2.2 (fun g => g.elim hj fun g => by rw [es] at g; simp at g; omega) (by rw [es, List.getElem?_toArray, List.getElem?_map, hv]; rfl) (g := fr (adr k sa n0) m pc ls (.int j :: .ref a :: r)) rfl rfl hd target ht
  · obtain ⟨rfl, hs⟩ := chk_some hs
    obtain ⟨j, a, r, ty, vs, v, rfl, q2, ho, hj, hv, rfl⟩ := hLd_some hs
    obtain rfl : ty = _ := of_decide_eq_true ho
    obtain ⟨cl, A, es⟩ := S.2.2.2.2 a _ q2
    have hlt := (List.getElem?_eq_some_iff.mp hv).1
    exact Beh.stay X S N fun target ht => X.caload hx (j := j) (v := ren (adr k sa n0) v) A.1 (State.isArrayOf_alike hZ.alike A.2.1) A.2.2 (fun g => g.elim hj fun g => by rw [es] at g; simp at g; omega) (by rw [es, List.getElem?_toArray, List.getElem?_map, hv]; rfl) (g := fr (adr k sa n0) m pc ls (.int j :: .ref a :: r)) rfl rfl hd target ht
  · obtain ⟨rfl, hs⟩ := chk_some hs
    obtain ⟨j, a, r, ty, vs, v, rfl, q2, ho, hj, hv, rfl⟩ := hLd_some hs
    obtain rfl : ty = _ := of_decide_eq_true ho
    obtain ⟨cl, A, es⟩ := S.2.2.2.2 a _ q2
    have hlt := (List.getElem?_eq_some_iff.mp hv).1
    exact Beh.stay X S N fun target ht => X.laload hx (j := j) (v := ren (adr k sa n0) v) A.1 (State.isArrayOf_alike hZ.alike A.2.1) A.2.2 (fun g => g.elim hj fun g => by rw [es] at g; simp at g; omega) (by rw [es, List.getElem?_toArray, List.getElem?_map, hv]; rfl) (g := fr (adr k sa n0) m pc ls (.int j :: .ref a :: r)) rfl rfl hd target ht
  · obtain ⟨rfl, hs⟩ := chk_some hs
    obtain ⟨j, a, r, ty, vs, v, rfl, q2, ho, hj, hv, rfl⟩ := hLd_some hs
    obtain ⟨cl, A, es⟩ := S.2.2.2.2 a _ q2
    have hlt := (List.getElem?_eq_some_iff.mp hv).1
    simp only [okB, Bool.or_eq_true, decide_eq_true_eq] at ho
    rcases ho with rfl | rfl
    · exact Beh.stay X S N fun target ht => X.baloadBytes hx (j := j) (v := ren (adr k sa n0) v) A.1 (State.isArrayOf_alike hZ.alike A.2.1) A.2.2 (fun g => g.elim hj fun g => by rw [es] at g; simp at g; omega) (by rw [es, List.getElem?_toArray, List.getElem?_map, hv]; rfl) (g := fr (adr k sa n0) m pc ls (.int j :: .ref a :: r)) rfl rfl hd target ht
    · exact Beh.stay X S N fun target ht => X.baloadBooleans hx (j := j) (v := ren (adr k sa n0) v) A.1 (State.isArrayOf_alike hZ.alike A.2.1) A.2.2 (fun g => g.elim hj fun g => by rw [es] at g; simp at g; omega) (by rw [es, List.getElem?_toArray, List.getElem?_map, hv]; rfl) (g := fr (adr k sa n0) m pc ls (.int j :: .ref a :: r)) rfl rfl hd target ht
  · obtain ⟨rfl, hs⟩ := chk_some hs
    obtain ⟨v, j, a, r, ty, vs, v', rfl, q2, ho, hk, hj, hlt, hv, rfl⟩ := hSt_some hs
    obtain rfl : ty = _ := of_decide_eq_true ho
    obtain ⟨cl, A, es⟩ := S.2.2.2.2 a _ q2
    cases v <;> simp only [putv, Option.some.injEq, reduceCtorEq] at hv
    subst hv
    obtain ⟨T', h', X', e', W, st'⟩ := stI X hx hZ rfl A (j := j) (fun g => g.elim hj fun g => by rw [es] at g; simp at g; omega) (g := fr (adr k sa n0) m pc ls (.int _ :: .int j :: .ref a :: r)) rfl rfl hd
    exact st_beh X' e' W S N q2 hk st'
  · obtain ⟨rfl, hs⟩ := chk_some hs
    obtain ⟨v, j, a, r, ty, vs, v', rfl, q2, ho, hk, hj, hlt, hv, rfl⟩ := hSt_some hs
    obtain rfl : ty = _ := of_decide_eq_true ho
    obtain ⟨cl, A, es⟩ := S.2.2.2.2 a _ q2
    cases v <;> simp only [putv, Option.some.injEq, reduceCtorEq] at hv
    subst hv
    obtain ⟨T', h', X', e', W, st'⟩ := stC X hx hZ rfl A (j := j) (fun g => g.elim hj fun g => by rw [es] at g; simp at g; omega) (g := fr (adr k sa n0) m pc ls (.int _ :: .int j :: .ref a :: r)) rfl rfl hd
    exact st_beh X' e' W S N q2 hk st'
  · obtain ⟨rfl, hs⟩ := chk_some hs
    obtain ⟨v, j, a, r, ty, vs, v', rfl, q2, ho, hk, hj, hlt, hv, rfl⟩ := hSt_some hs
    obtain rfl : ty = _ := of_decide_eq_true ho
    obtain ⟨cl, A, es⟩ := S.2.2.2.2 a _ q2
    cases v <;> simp only [putv, Option.some.injEq, reduceCtorEq] at hv
    subst hv
    obtain ⟨T', h', X', e', W, st'⟩ := stJ X hx hZ rfl A (j := j) (fun g => g.elim hj fun g => by rw [es] at g; simp at g; omega) (g := fr (adr k sa n0) m pc ls (.long _ :: .int j :: .ref a :: r)) rfl rfl hd
    exact st_beh X' e' W S N q2 hk st'
  · obtain ⟨rfl, hs⟩ := chk_some hs
    obtain ⟨v, j, a, r, ty, vs, v', rfl, q2, ho, hk, hj, hlt, hv, rfl⟩ := hSt_some hs
    obtain ⟨cl, A, es⟩ := S.2.2.2.2 a _ q2
    simp only [okB, Bool.or_eq_true, decide_eq_true_eq] at ho
    rcases ho with rfl | rfl
    · cases v <;> simp only [putv, Option.some.injEq, reduceCtorEq] at hv
      subst hv
      obtain ⟨T', h', X', e', W, st'⟩ := stB X hx hZ rfl A (j := j) (fun g => g.elim hj fun g => by rw [es] at g; simp at g; omega) (g := fr (adr k sa n0) m pc ls (.int _ :: .int j :: .ref a :: r)) rfl rfl hd
      exact st_beh X' e' W S N q2 hk st'
    · cases v <;> simp only [putv, Option.some.injEq, reduceCtorEq] at hv
      subst hv
      obtain ⟨T', h', X', e', W, st'⟩ := stZ X hx hZ rfl A (j := j) (fun g => g.elim hj fun g => by rw [es] at g; simp at g; omega) (g := fr (adr k sa n0) m pc ls (.int _ :: .int j :: .ref a :: r)) rfl rfl hd
      exact st_beh X' e' W S N q2 hk st'
  · obtain ⟨rfl, hs⟩ := chk_some hs
    obtain ⟨a, r, ty, vs, rfl, q2, rfl⟩ := hLen_some hs
    obtain ⟨cl, A, es⟩ := S.2.2.2.2 a _ q2
    have ez : cl.slots.size = vs.length := by rw [es]; simp
    refine Beh.stay X S N fun target ht => X.arraylength hx (cell := cl) A.1 (State.isArrayOf_alike hZ.alike A.2.1) (g := fr (adr k sa n0) m pc ls (.ref a :: r)) rfl rfl hd target ?_
    rw [ez]; exact ht
  · obtain ⟨rfl, hs⟩ := chk_some hs
    obtain ⟨v, hv, rfl⟩ := Option.map_eq_some_iff.mp hs
    exact Beh.stay X S N (X.ldcInt hx hown (mvT hZ (hw _ (rCon_mem hv))) (g := fr (adr k sa n0) m pc ls st) rfl hd)
  · obtain ⟨rfl, hs⟩ := chk_some hs
    obtain ⟨v, hv, rfl⟩ := Option.map_eq_some_iff.mp hs
    exact Beh.stay X S N (X.ldcwInt hx hown (mvT hZ (hw _ (rCon_mem hv))) (g := fr (adr k sa n0) m pc ls st) rfl hd)
  · obtain ⟨rfl, hs⟩ := chk_some hs
    obtain ⟨v, hv, rfl⟩ := Option.map_eq_some_iff.mp hs
    exact Beh.stay X S N (X.ldc2Long hx hown (mvT hZ (hw _ (rConL_mem hv))) (g := fr (adr k sa n0) m pc ls st) rfl hd)
  · cases hs
end H
theorem hstep_size {ws : Ws} {k : Nat} {y : MethodName} {ins : Instr} {len pc : Nat} {st : List Value} {H : AHeap} {q : Nat × List Value × AHeap} (hs : hstep ws k y ins len pc st H = some q) : H.length ≤ q.2.2.length ∧ tot ws H ≤ tot ws q.2.2 := by
  unfold hstep at hs
  split at hs
  · obtain ⟨rfl, hs⟩ := chk_some hs
    unfold hGet at hs
    split at hs
    · split at hs
      · split at hs
        · obtain ⟨v, -, rfl⟩ := Option.map_eq_some_iff.mp hs; exact ⟨Nat.le_refl _, Nat.le_refl _⟩
        · cases hs
      · cases hs
    · cases hs
  · obtain ⟨rfl, hs⟩ := chk_some hs
    unfold hPut at hs
    split at hs
    · split at hs
      · rename_i C j ty C' vs q1 q2
        split at hs
        · obtain ⟨v, -, rfl⟩ := Option.map_eq_some_iff.mp hs
          exact ⟨Nat.le_of_eq (by rw [List.length_set]), Nat.le_of_eq (tot_set (o := (.object C', vs)) (o' := (.object C', vs.set j v)) q2 rfl).symm⟩
        · cases hs
      · cases hs
    · cases hs
  · obtain ⟨rfl, hs⟩ := chk_some hs
    unfold hNew at hs
    split at hs
    · split at hs
      · cases hs; exact ⟨by simp, by rw [tot_app]; omega⟩
      · cases hs
    · cases hs
  · obtain ⟨rfl, hs⟩ := chk_some hs
    unfold hNewA at hs
    split at hs
    · split at hs
      · cases hs; exact ⟨by simp, by rw [tot_app]; omega⟩
      · cases hs
    · cases hs
  all_goals first
    | (obtain ⟨rfl, hs⟩ := chk_some hs; obtain ⟨j, a, r, ty, vs, v, rfl, q2, ho, hj, hv, rfl⟩ := hLd_some hs; exact ⟨Nat.le_refl _, Nat.le_refl _⟩)
    | (obtain ⟨rfl, hs⟩ := chk_some hs; obtain ⟨v, j, a, r, ty, vs, v', rfl, q2, ho, hk, hj, hlt, hv, rfl⟩ := hSt_some hs; exact ⟨Nat.le_of_eq (by rw [List.length_set]), Nat.le_of_eq (tot_set (o := (.array ty, vs)) (o' := (.array ty, vs.set _ v')) q2 (by simp [cost])).symm⟩)
    | (obtain ⟨rfl, hs⟩ := chk_some hs; obtain ⟨a, r, ty, vs, rfl, q2, rfl⟩ := hLen_some hs; exact ⟨Nat.le_refl _, Nat.le_refl _⟩)
    | (obtain ⟨rfl, hs⟩ := chk_some hs; obtain ⟨v, hv, rfl⟩ := Option.map_eq_some_iff.mp hs; exact ⟨Nat.le_refl _, Nat.le_refl _⟩)
    | (cases hs; done)
end Jvm.Own
namespace Jvm.Own
open Sem ClassFile Op Lib Jvm.Stand Jvm.Free Jvm.LawKit Jvm.RoadKit
/-! OWN 5: the run is the machine's -/
theorem ent_ren (f : Nat → Nat) : ∀ as : List Value, ent (as.map (ren f)) = (ent as).map (renS f)
  | [] => rfl
  | v :: r => by
    simp only [List.map_cons, ent, ren_cat, ent_ren f r]
    split <;> rfl
theorem fill_eq : ∀ (as : List Value) (acc : Array Slot), as.foldl (fun acc v => if v.category = 2 then (acc.push (.val v)).push .second else acc.push (.val v)) acc = acc ++ (ent as).toArray
  | [], acc => by simp [ent]
  | v :: r, acc => by
    simp only [List.foldl_cons, ent]
    split
    · rw [fill_eq r]; simp [← Array.toList_inj]
    · rw [fill_eq r]; simp [← Array.toList_inj]
theorem entry_eq (f : Nat → Nat) (m : MethodId) (as : List Value) (mx : Nat) : entryFrame m (as.map (ren f)).toArray mx = fr f m 0 (entry as mx) [] := by
  have h : argsToLocals (as.map (ren f)).toArray mx = ((entry as mx).map (renS f)).toArray := by
    unfold argsToLocals entry
    simp only [List.foldl_toArray']
    rw [fill_eq, ent_ren]
    simp [← Array.toList_inj, renS]
  unfold entryFrame
  rw [h]; rfl
theorem entry_len {as : List Value} {mx : Nat} (h : (ent as).length ≤ mx) : (entry as mx).length = mx := by simp [entry]; omega
theorem wsum_ren (f : Nat → Nat) (st : List Value) : ((st.map (ren f)).map fun v => v.category).sum = wsum st := by
  unfold wsum
  rw [List.map_map]
  congr 1
  apply List.map_congr_left
  intro v _
  exact ren_cat f v
section Inv
variable {ws : Ws} {dn : Dn} {k : Nat} {y : MethodName} {bytes : ByteArray} {ret : Option FieldType} {pc : Nat} {ls : List Slot} {st : List Value} {H : AHeap}
theorem cR_some {i : Nat} {y' : MethodName} {b : ByteArray} {mx na sl : Nat} {r : Option FieldType} (h : cR ws dn y i = some (y', b, mx, r, na, sl)) :
    Jvm.Cond.methodLink y.cls i y' ∈ ws ∧ Jvm.Cond.code y' b mx r ∈ ws ∧ Jvm.Cond.initialized y'.cls ∈ ws ∧ Jvm.plainName y'.cls = true ∧ (y'.cls ≠ "java/lang/invoke/MethodHandle" ∧ y'.cls ≠ "java/lang/invoke/VarHandle") ∧ rCode ws y' = some (b, mx, r) ∧
    ∃ f' l' f l sig, dnOf dn y' = some (f', l') ∧ dnOf dn y = some (f, l) ∧ parseMethodDescriptor y'.desc = some sig ∧ na = sig.parameters.length ∧ f' + 1 ≤ f ∧ sl + (mx + 11) + l' ≤ l := by
  unfold cR at h
  split at h
  · cases h
  · rename_i z q1
    split at h
    · rename_i b' mx' r' f' l' f l sig q2 q3 q4 q5
      split at h
      · rename_i g
        cases h
        obtain ⟨g1, g2, g3, g4, g5, g6⟩ := g
        exact ⟨rMth_mem q1, rCode_mem q2, hasInit_mem g1, g2, ⟨g3, g4⟩, q2, f', l', f, l, sig, q3, q4, q5, rfl, g5, by omega⟩
      · cases h
    · cases h
theorem act_ret {v : Option Value} (h : act ws dn k y bytes ret pc ls st H = some (.inl v)) : (∃ z r t, decode bytes pc = .ok (.ireturn, 1) ∧ st = .int z :: r ∧ ret = some t ∧ (t = .int ∨ t = .boolean ∨ t = .byte ∨ t = .char ∨ t = .short) ∧ v = some (.int (nar t z))) ∨
    (∃ z, decode bytes pc = .ok (.lreturn, 1) ∧ st = [.long z] ∧ ret = some .long ∧ v = some (.long z)) ∨ (decode bytes pc = .ok (.return_, 1) ∧ st = [] ∧ ret = none ∧ v = none) := by
  unfold act at h
  split at h
  · cases h
  rename_i ins len hd
  split at h
  · cases h
  split at h
  · cases h
  unfold cstep at h
  split at h
  · obtain ⟨rfl, h⟩ := chk_some h
    split at h
    · split at h
      · rename_i g; cases h; exact Or.inl ⟨_, _, _, hd, rfl, rfl, g, rfl⟩
      · cases h
    · cases h
  · obtain ⟨rfl, h⟩ := chk_some h
    split at h
    · cases h; exact Or.inr (Or.inl ⟨_, hd, rfl, rfl, rfl⟩)
    · cases h
  · obtain ⟨rfl, h⟩ := chk_some h
    split at h
    · cases h; exact Or.inr (Or.inr ⟨hd, rfl, rfl, rfl⟩)
    · cases h
  · obtain ⟨rfl, h⟩ := chk_some h
    split at h
    · split at h <;> cases h
    · cases h
  · obtain ⟨rfl, h⟩ := chk_some h
    split at h
    · split at h
      · split at h <;> cases h
      · cases h
    · split at h
      · split at h
        · split at h <;> cases h
        · cases h
      · cases h
  · obtain ⟨rfl, h⟩ := chk_some h
    split at h
    · split at h
      · split at h
        · split at h <;> cases h
        · cases h
      · cases h
    · cases h
  · cases h
theorem act_step {pc' : Nat} {ls' : List Slot} {st' : List Value} {H' : AHeap} (h : act ws dn k y bytes ret pc ls st H = some (.inr (.inl (pc', ls', st', H')))) : ∃ ins len, decode bytes pc = .ok (ins, len) ∧
    ((xstep ins len pc ls st = some (pc', ls', st') ∧ H' = H) ∨ (ls' = ls ∧ hstep ws k y ins len pc st H = some (pc', st', H')) ∨
     (∃ i sl a r, ins = .invokespecial i ∧ len = 3 ∧ oR ws dn y i = some sl ∧ st = .ref a :: r ∧ wsum r ≤ sl ∧ pc' = pc + 3 ∧ ls' = ls ∧ st' = r ∧ H' = H)) := by
  unfold act at h
  split at h
  · cases h
  rename_i ins len hd
  refine ⟨ins, len, hd, ?_⟩
  split at h
  · rename_i g; cases h; exact Or.inl ⟨g, rfl⟩
  split at h
  · rename_i g; cases h; exact Or.inr (Or.inl ⟨rfl, g⟩)
  unfold cstep at h
  split at h
  · obtain ⟨rfl, h⟩ := chk_some h
    split at h
    · split at h <;> cases h
    · cases h
  · obtain ⟨rfl, h⟩ := chk_some h
    split at h <;> cases h
  · obtain ⟨rfl, h⟩ := chk_some h
    split at h <;> cases h
  · obtain ⟨rfl, h⟩ := chk_some h
    split at h
    · split at h <;> cases h
    · cases h
  · obtain ⟨rfl, h⟩ := chk_some h
    split at h
    · rename_i sl ho
      split at h
      · split at h
        · rename_i g; cases h; exact Or.inr (Or.inr ⟨_, sl, _, _, rfl, rfl, ho, rfl, g, rfl, rfl, rfl, rfl⟩)
        · cases h
      · cases h
    · split at h
      · split at h
        · split at h <;> cases h
        · cases h
      · cases h
  · obtain ⟨rfl, h⟩ := chk_some h
    split at h
    · split at h
      · split at h
        · split at h <;> cases h
        · cases h
      · cases h
    · cases h
  · cases h
/-- the three kinds of call -/
theorem act_call {y' : MethodName} {b : ByteArray} {r : Option FieldType} {en : List Slot} {rest : List Value} (h : act ws dn k y bytes ret pc ls st H = some (.inr (.inr (y', b, r, en, rest)))) : ∃ i mx na sl as, cR ws dn y i = some (y', b, mx, r, na, sl) ∧ en = entry as mx ∧ (ent as).length ≤ mx ∧ wsum rest ≤ sl ∧
    ((decode bytes pc = .ok (.invokestatic i, 3) ∧ Jvm.Cond.static y' ∈ ws ∧ as.length = na ∧ st = as.reverse ++ rest) ∨
     (∃ a as', as = .ref a :: as' ∧ as'.length = na ∧ st = as'.reverse ++ .ref a :: rest ∧ Jvm.Cond.instanceMethod y' ∈ ws ∧
      ((decode bytes pc = .ok (.invokespecial i, 3) ∧ y'.name = "<init>" ∧ r = none) ∨
       (decode bytes pc = .ok (.invokevirtual i, 3) ∧ ∃ C vs, H[a]? = some (.object C, vs) ∧ ((Jvm.Cond.privateMethod y' ∈ ws ∧ ∃ ki, Jvm.Cond.instantiable y'.cls ki ∈ ws) ∨ (Jvm.Cond.declares y' ∈ ws ∧ Jvm.Cond.selects y'.cls y' y' ∈ ws ∧ C = y'.cls)))))) := by
  unfold act at h
  split at h
  · cases h
  rename_i ins len hd
  split at h
  · cases h
  split at h
  · cases h
  unfold cstep at h
  split at h
  · obtain ⟨rfl, h⟩ := chk_some h
    split at h
    · split at h <;> cases h
    · cases h
  · obtain ⟨rfl, h⟩ := chk_some h
    split at h <;> cases h
  · obtain ⟨rfl, h⟩ := chk_some h
    split at h <;> cases h
  · rename_i i _ _
    obtain ⟨rfl, h⟩ := chk_some h
    split at h
    · rename_i y1 b1 mx r1 na sl hq
      split at h
      · rename_i g
        cases h
        unfold sR at hq
        split at hq
        · rename_i q hc
          split at hq
          · rename_i hs
            cases hq
            refine ⟨i, mx, na, sl, _, hc, rfl, g.2.2, g.2.1, Or.inl ⟨hd, hasStat_mem hs, by simp; omega, by simp⟩⟩
          · cases hq
        · cases hq
      · cases h
    · cases h
  · rename_i i _ _
    obtain ⟨rfl, h⟩ := chk_some h
    split at h
    · split at h
      · split at h <;> cases h
      · cases h
    · split at h
      · rename_i y1 b1 mx r1 na sl hq
        split at h
        · rename_i a rest' hdrop
          split at h
          · rename_i g
            cases h
            unfold nR at hq
            split at hq
            · rename_i q hc
              split at hq
              · rename_i hs
                cases hq
                refine ⟨i, mx, na, sl, _, hc, rfl, g.2.1, g.1, Or.inr ⟨a, _, rfl, by simp; omega, ?_, hasIM_mem hs.2.1, Or.inl ⟨hd, hs.1, hs.2.2⟩⟩⟩
                rw [List.reverse_reverse, ← hdrop, List.take_append_drop]
              · cases hq
            · cases hq
          · cases h
        · cases h
      · cases h
  · rename_i i _ _
    obtain ⟨rfl, h⟩ := chk_some h
    split at h
    · rename_i pv y1 b1 mx r1 na sl hq
      split at h
      · rename_i a rest' hdrop
        split at h
        · rename_i C vs hH
          split at h
          · rename_i g
            cases h
            unfold vR at hq
            split at hq
            · rename_i q hc
              split at hq
              · rename_i hs
                split at hq
                · rename_i hp; cases hq
                  obtain ⟨ki, hki⟩ := Option.isSome_iff_exists.mp hp.2
                  exact ⟨i, mx, na, sl, _, hc, rfl, g.2.2.1, g.2.1, Or.inr ⟨a, _, rfl, by simp; omega, by rw [List.reverse_reverse, ← hdrop, List.take_append_drop], hasIM_mem hs, Or.inr ⟨hd, C, vs, hH, Or.inl ⟨hasPriv_mem hp.1, ki, rInst_mem hki⟩⟩⟩⟩
                · split at hq
                  · rename_i hp; cases hq
                    exact ⟨i, mx, na, sl, _, hc, rfl, g.2.2.1, g.2.1, Or.inr ⟨a, _, rfl, by simp; omega, by rw [List.reverse_reverse, ← hdrop, List.take_append_drop], hasIM_mem hs, Or.inr ⟨hd, C, vs, hH, Or.inr ⟨hasDecl_mem hp.1, hasSel_mem hp.2, g.1.resolve_left (by simp)⟩⟩⟩⟩
                  · cases hq
              · cases hq
            · cases hq
          · cases h
        · cases h
      · cases h
    · cases h
  · cases h
theorem act_size {pc' : Nat} {ls' : List Slot} {st' : List Value} {H' : AHeap} (h : act ws dn k y bytes ret pc ls st H = some (.inr (.inl (pc', ls', st', H')))) : H.length ≤ H'.length ∧ tot ws H ≤ tot ws H' ∧ ls'.length = ls.length := by
  obtain ⟨ins, len, hd, ⟨g, rfl⟩ | ⟨rfl, g⟩ | ⟨i, sl, a, r, -, -, -, -, -, -, rfl, -, rfl⟩⟩ := act_step h
  · exact ⟨Nat.le_refl _, Nat.le_refl _, xstep_size g⟩
  · have := hstep_size g; exact ⟨this.1, this.2, rfl⟩
  · exact ⟨Nat.le_refl _, Nat.le_refl _, rfl⟩
end Inv
theorem run_size {ws : Ws} {dn : Dn} {k : Nat} : ∀ {n : Nat} {y : MethodName} {bytes : ByteArray} {ret : Option FieldType} {pc : Nat} {ls : List Slot} {st : List Value} {H : AHeap} {v : Option Value} {H' : AHeap}, run ws dn k n y bytes ret pc ls st H = some (v, H') → H.length ≤ H'.length ∧ tot ws H ≤ tot ws H'
  | 0, _, _, _, _, _, _, _, _, _, h => by cases h
  | n + 1, y, bytes, ret, pc, ls, st, H, v, H', h => by
    rw [run] at h
    split at h
    · cases h
    · cases h; exact ⟨Nat.le_refl _, Nat.le_refl _⟩
    · rename_i g
      have h1 := run_size h
      have h2 := act_size g
      exact ⟨Nat.le_trans h2.1 h1.1, Nat.le_trans h2.2.1 h1.2⟩
    · split at h
      · rename_i g
        have h1 := run_size h
        have h2 := run_size g
        exact ⟨Nat.le_trans h2.1 h1.1, Nat.le_trans h2.2 h1.2⟩
      · cases h
section Snd
/-- from here on the machine comes to a return of v with the heap H' -/
def Goes (p : Program) (l : Launch) (e : Env) (R : Room) (s : State) (m : MethodId) (args : Array Value) (below : List Frame) (meth : Method) (c : Code) (T : State) (Z : State) (ws : Ws) (k sa n0 cells slots : Nat) (H : AHeap) (g : JFrame) (ret : Option FieldType) (v : Option Value) (H' : AHeap) : Prop :=
  ∃ T' locs', Stand p l e R s m args below meth c T' locs' (cells + (H'.length - H.length)) (slots + (tot ws H' - tot ws H)) ∧ Sim Z ws k sa n0 H' T'.heap ∧ Fr n0 locs' ∧ (ret = none → v = none) ∧
    ∀ fs, (∀ (fj : JFrame) (acts : List Action), fj.method = m → fj.locked = none → fj.entered = [] → (doReturn e (T'.setTop fj) acts (v.map (ren (adr k sa n0)))).1 = T'.setFrames fs) → Steps p.tables e below (T.setTop g) (T'.setFrames fs)
variable {p : Program} {l : Launch} {e : Env} {R : Room} {s : State} {m : MethodId} {args : Array Value} {below : List Frame} {meth : Method} {c : Code} {T : State} {locs : List Loc} {cells slots : Nat}
  {Z : State} {a0 : Array Value} {ws : Ws} {dn : Dn} {k sa n0 : Nat}
theorem Goes.of {T1 : State} {H H1 H' : AHeap} {g g1 : JFrame} {ret : Option FieldType} {v : Option Value} (hst : ∀ target, Steps p.tables e below (T1.setTop g1) target → Steps p.tables e below (T.setTop g) target)
    (G : Goes p l e R s m args below meth c T1 Z ws k sa n0 (cells + (H1.length - H.length)) (slots + (tot ws H1 - tot ws H)) H1 g1 ret v H') (m1 : H.length ≤ H1.length ∧ tot ws H ≤ tot ws H1) (m2 : H1.length ≤ H'.length ∧ tot ws H1 ≤ tot ws H') :
    Goes p l e R s m args below meth c T Z ws k sa n0 cells slots H g ret v H' := by
  obtain ⟨T', locs', X', S', N', hv, go⟩ := G
  have e1 : cells + (H1.length - H.length) + (H'.length - H1.length) = cells + (H'.length - H.length) := by omega
  have e2 : slots + (tot ws H1 - tot ws H) + (tot ws H' - tot ws H1) = slots + (tot ws H' - tot ws H) := by omega
  rw [e1, e2] at X'
  exact ⟨T', locs', X', S', N', hv, fun fs hf => hst _ (go fs hf)⟩
def Snd (Z : State) (ws : Ws) (dn : Dn) (k sa n0 n : Nat) : Prop :=
  ∀ (y : MethodName) (bytes : ByteArray) (ret : Option FieldType) (pc : Nat) (ls : List Slot) (st : List Value) (H : AHeap) (v : Option Value) (H' : AHeap), run ws dn k n y bytes ret pc ls st H = some (v, H') →
  ∀ (p : Program) (l : Launch) (e : Env) (R : Room) (s : State) (m : MethodId) (args : Array Value) (below : List Frame) (meth : Method) (c : Code) (T : State) (locs : List Loc) (cells slots : Nat),
    Stand p l e R s m args below meth c T locs cells slots → p.tables.exec = Jvm.exec → Z.Warmed39 s.vm → s.vm.findClass y.cls = some m.cls → meth.name = y.name → meth.sig.returnType = ret → c.code = bytes → ls.length = c.maxLocals →
    (∀ f lc, dnOf dn y = some (f, lc) → f ≤ R.frames ∧ lc ≤ R.locals) → Sim Z ws k sa n0 H T.heap → Fr n0 locs → cells + (H'.length - H.length) ≤ R.cells → slots + (tot ws H' - tot ws H) ≤ R.slots → T.heap.size = s.heap.size + cells →
    Goes p l e R s m args below meth c T Z ws k sa n0 cells slots H (fr (adr k sa n0) m pc ls st) ret v H'
theorem met_of {n : Nat} (ih : Snd Z ws dn k sa n0 n) (l : Launch) {y : MethodName} {b : ByteArray} {mx f lc : Nat} {r : Option FieldType} (wsx : List Jvm.Cond) (hp : Jvm.plainName y.cls = true) {as : List Value} (he : (ent as).length ≤ mx) {H H1 : AHeap} {v : Option Value}
    (hrun : run ws dn k n y b r 0 (entry as mx) [] H = some (v, H1)) (hdn : ∀ f' l', dnOf dn y = some (f', l') → f' ≤ f ∧ l' ≤ lc) {h : Heap} (S : Sim Z ws k sa n0 H h) {rc rs : Nat} (hc : H1.length - H.length ≤ rc) (hs : tot ws H1 - tot ws H ≤ rs) :
    MetFree l y (head1 (Jvm.Cond.code y b mx r :: wsx) ({ frames := f, cells := rc, slots := rs, locals := lc } : Room)) (fun a U => a = (as.map (ren (adr k sa n0))).toArray ∧ Z.Warmed39 U.vm ∧ U.heap = h) (fun _ _ _ _ _ => True)
      (fun _ U o U' => ∃ w L, o = .returned w ∧ (w = v.map (ren (adr k sa n0)) ∧ Sim Z ws k sa n0 H1 U'.heap ∧ Fr n0 L) ∧ FrameEnd U o U' L (H1.length - H.length) (tot ws H1 - tot ws H)) := by
  refine MetFree.of_bodySF (plainFor_of_name hp) hisR ?_
  intro p e s m args below meth c s₁ Bd hml0 hP hK
  obtain ⟨rfl, hZ, hh⟩ := hP
  have hown : s.vm.findClass y.cls = some m.cls := findClass_of_methodNamed Bd.named
  have hnm := (name_of_methodNamed Bd.named Bd.method).1
  have X0 : Stand p l e ({ frames := f, cells := rc, slots := rs, locals := lc } : Room) s m (as.map (ren (adr k sa n0))).toArray below meth c s₁ [] 0 0 := Stand.of_body Bd
  have e0 : s₁.heap = h := by rw [← hh, Bd.state]; rfl
  obtain ⟨T', locs', X', S', N', hv, go⟩ := ih y b r 0 (entry as mx) [] H v H1 hrun p l e _ s m _ below meth c s₁ [] 0 0 X0 Bd.exec hZ hown hnm Bd.returns Bd.bytes (by rw [entry_len he]; exact hml0.symm) hdn (by rw [e0]; exact S) (Fr.nil n0) (by rw [Nat.zero_add]; exact hc) (by rw [Nat.zero_add]; exact hs) (by rw [e0, ← hh, Nat.add_zero])
  obtain ⟨fs, hr, hrun', hended, hW, hsame⟩ := X'.leave (v := v.map (ren (adr k sa n0))) (fun hn => by rw [Bd.returns] at hn; rw [hv hn]; rfl)
  refine ⟨_, _, castTop (entry_eq _ m as mx) (go fs hr), hrun', hended, _, locs', rfl, ⟨rfl, S', N'⟩, ⟨_, rfl⟩, hW, hsame.mono (Nat.le_of_eq (Nat.zero_add _)) (Nat.le_of_eq (Nat.zero_add _))⟩
set_option maxHeartbeats 2000000 in
theorem snd (hw : ∀ d ∈ ws, d.before a0 Z = true) : ∀ n, Snd Z ws dn k sa n0 n
  | 0 => fun y bytes ret pc ls st H v H' h => by cases h
  | n + 1 => fun y bytes ret pc ls st H v H' h p l e R s m args below meth c T locs cells slots X hx hZ hown hnm hret hby hls hF S N hc hl hz0 => by
    have ih := snd hw n
    rw [run] at h
    split at h
    · cases h
    · rename_i v' ha
      cases h
      have stay : ∀ {v : Option Value}, (ret = none → v = none) → (∀ fs, (∀ (fj : JFrame) (acts : List Action), fj.method = m → fj.locked = none → fj.entered = [] → (doReturn e (T.setTop fj) acts (v.map (ren (adr k sa n0)))).1 = T.setFrames fs) → Steps p.tables e below (T.setTop (fr (adr k sa n0) m pc ls st)) (T.setFrames fs)) →
          Goes p l e R s m args below meth c T Z ws k sa n0 cells slots H (fr (adr k sa n0) m pc ls st) ret v H := fun hv hg => ⟨T, locs, by rw [Nat.sub_self, Nat.sub_self]; exact X, S, N, hv, hg⟩
      rcases act_ret ha with ⟨z, r, t, hd, rfl, rfl, ht, rfl⟩ | ⟨z, hd, rfl, rfl, rfl⟩ | ⟨hd, rfl, rfl, rfl⟩
      · refine stay (fun h => by cases h) fun fs hf => ?_
        rcases ht with rfl | ht
        · exact retOut X hx hret (w := .int z) (rest := r.map (ren (adr k sa n0))) rfl (Or.inl ⟨rfl, Or.inl rfl, z, rfl⟩) (hb hby hd) hf
        · exact retN X hx hret ht (hb hby hd) hf
      · exact stay (fun h => by cases h) fun fs hf => retOut X hx hret (w := .long z) (rest := []) rfl (Or.inr (Or.inl ⟨rfl, rfl, z, rfl⟩)) (hb hby hd) hf
      · exact stay (fun _ => rfl) fun fs hf => X.returnOut hx hret (hb hby hd) hf
    · rename_i pc' ls' st' H1 ha
      have m1 := act_size ha
      have m2 := run_size h
      obtain ⟨ins, len, hd, ⟨g, rfl⟩ | ⟨rfl, g⟩ | ⟨i, sl, a, r, rfl, rfl, ho, rfl, hW, rfl, rfl, rfl, rfl⟩⟩ := act_step ha
      · obtain ⟨T', locs', X', S', N', hv, go⟩ := ih y bytes ret pc' ls' st' H1 v H' h p l e R s m args below meth c T locs cells slots X hx hZ hown hnm hret hby (m1.2.2.trans hls) hF S N hc hl hz0
        exact ⟨T', locs', X', S', N', hv, fun fs hf => xstep_sound X.here hx (adr k sa n0) (hb hby hd) g (go fs hf)⟩
      · obtain ⟨T1, locs1, X1, S1, N1, st1⟩ := hstep_sound (ls := ls') hw X hx hZ hown hnm (hb hby hd) g S N (by dsimp only; omega) (by dsimp only; omega) hz0
        dsimp only at X1 S1 st1
        have z1 := S.1
        have z2 := S1.1
        have z3 := S.2.1
        have G := ih y bytes ret pc' ls' st' H1 v H' h p l e R s m args below meth c T1 locs1 _ _ X1 hx hZ hown hnm hret hby hls hF S1 N1 (by omega) (by omega) (by omega)
        exact Goes.of st1 G ⟨m1.1, m1.2.1⟩ m2
      · unfold oR at ho
        split at ho
        · rename_i y1 b1 mx1 r1 f1 l1 q1 q2 q3
          split at ho
          · rename_i g
            cases ho
            obtain ⟨rfl, g2, g3, rfl, rfl, g4, g5⟩ := g
            obtain ⟨u1, u2⟩ := hF _ _ q3
            have eb : b1 = ⟨#[0xb1]⟩ := by cases b1; cases g3; rfl
            subst eb
            obtain ⟨T1, X1, e1, st1⟩ := initO X hx hZ hown (hw _ (rMth_mem q1)) (hw _ (hasIM_mem g2)) (hw _ (rCode_mem q2)) rfl (g := fr (adr k sa n0) m pc ls' (.ref a :: st')) rfl (by simp [hls]) rfl (hb hby hd) (by omega) (W := l1 - 12) (by show 2 * 0 + _ ≤ _; rw [wsum_ren]; omega) (by omega)
            have G := ih y bytes ret (pc + 3) ls' st' H1 v H' h p l e R s m args below meth c T1 locs cells slots X1 hx hZ hown hnm hret hby hls hF (by rw [e1]; exact S) N hc hl (by rw [e1]; exact hz0)
            obtain ⟨T', locs', X', S', N', hv, go⟩ := G
            exact ⟨T', locs', X', S', N', hv, fun fs hf => st1 _ (go fs hf)⟩
          · cases ho
        · cases ho
    · rename_i y' b r en rest ha
      split at h
      · rename_i v1 H1 h1
        have m1 := run_size h1
        have m2 := run_size h
        obtain ⟨i, mx, na, sl, as, hq, rfl, hen, hW, hk⟩ := act_call ha
        obtain ⟨w1, w2, w3, w4, w5, -, f', l', f, lc, sig, d1, d2, d3, d4, d5, d6⟩ := cR_some hq
        obtain ⟨u1, u2⟩ := hF _ _ d2
        have hM := met_of ih l [] w4 hen h1 (f := f') (lc := l') (fun f2 l2 q => by rw [d1] at q; cases q; exact ⟨Nat.le_refl _, Nat.le_refl _⟩) S (Nat.le_refl _) (Nat.le_refl _)
        have hB := backOf (R := R) (p := p) (e := e) (below := below) (s := s) (args := args) (len := 3) (W := sl) (rm := ({ frames := f', cells := H1.length - H.length, slots := tot ws H1 - tot ws H, locals := l' } : Room)) (Q := fun w h L => w = v1.map (ren (adr k sa n0)) ∧ Sim Z ws k sa n0 H1 h ∧ Fr n0 L) hM hZ (hw _ w2) (hw _ w3) (by show f' + 1 ≤ _; omega) (by show sl + (mx + 11) + l' ≤ _; omega)
        have hsz : (fr (adr k sa n0) m pc ls st).locals.size = c.maxLocals := by simp [hls]
        have hWW : ∀ st' : List Value, wsum st' ≤ sl → 2 * (fr (adr k sa n0) m pc ls st).monitorRoom + ((st'.map (ren (adr k sa n0))).map fun v => v.category).sum ≤ sl := fun st' q => by show 2 * 0 + _ ≤ _; rw [wsum_ren]; omega
        have hback : ∀ (v' : Option Value) (vm₁ : Vm) (B : Pt), Stand p l e R s m args below meth c B.U B.locs B.cells B.slots →
            (∃ L, (v' = v1.map (ren (adr k sa n0)) ∧ Sim Z ws k sa n0 H1 B.U.heap ∧ Fr n0 L) ∧ B.locs = locs ++ L ∧ B.cells = cells + (H1.length - H.length) ∧ B.slots = slots + (tot ws H1 - tot ws H)) →
            (∀ target, Steps p.tables e below (B.U.setTop { fr (adr k sa n0) m pc ls st with pc := pc + 3, stack := v'.toList ++ rest.map (ren (adr k sa n0)) }) target → Steps p.tables e below (T.setTop (fr (adr k sa n0) m pc ls st)) target) →
            Goes p l e R s m args below meth c T Z ws k sa n0 cells slots H (fr (adr k sa n0) m pc ls st) ret v H' := by
          rintro v' vm₁ ⟨T1, L1, k1, n1⟩ X1 ⟨Lc, ⟨rfl, S1, N1⟩, l1, y1, z1⟩ st1
          dsimp only [Pt.U, Pt.locs, Pt.cells, Pt.slots] at X1 l1 y1 z1 st1 S1
          subst l1 y1 z1
          have z1 := S.1
          have z2 := S1.1
          have z3 := S.2.1
          have G := ih y bytes ret (pc + 3) ls (v1.toList ++ rest) H1 v H' h p l e R s m args below meth c T1 _ _ _ X1 hx hZ hown hnm hret hby hls hF S1 (Fr.app N N1) (by omega) (by omega) (by omega)
          refine Goes.of (fun target ht => st1 target ?_) G m1 m2
          have e1 : (v1.toList ++ rest).map (ren (adr k sa n0)) = (v1.map (ren (adr k sa n0))).toList ++ rest.map (ren (adr k sa n0)) := by cases v1 <;> simp
          rw [← e1]; exact ht
        rcases hk with ⟨hd, ws1, hna, rfl⟩ | ⟨a, as', rfl, hna, rfl, wi, ⟨hd, hn, rfl⟩ | ⟨hd, C, vs, hH, hpd⟩⟩
        · obtain ⟨v', vm₁, B, -, X1, P1, st1⟩ := Jvm.LawKit.callS X hx (y := y') hown (mvT hZ (hw _ w1)) (mvT hZ (hw _ ws1)) (mvT hZ (hw _ w3)) (mvT hZ (hw _ w2)) w5 hB (g := fr (adr k sa n0) m pc ls (as.reverse ++ rest)) rfl hsz (argsL := as.map (ren (adr k sa n0))) (rest := rest.map (ren (adr k sa n0)))
            (fun sg hsg => by rw [d3] at hsg; cases hsg; simp [hna, d4]) (by simp) (hWW rest hW) (hb hby hd) (fun _ _ => ⟨rfl, rfl, by show cells + (H1.length - H.length) ≤ _; omega, by show slots + (tot ws H1 - tot ws H) ≤ _; omega⟩)
          exact hback v' vm₁ B X1 P1 st1
        · obtain ⟨v', vm₁, B, -, X1, P1, st1⟩ := X.specialBack hx (y := y') hn hown (mvT hZ (hw _ w1)) (mvT hZ (hw _ wi)) (mvT hZ (hw _ w2)) w5 hB (g := fr (adr k sa n0) m pc ls (as'.reverse ++ .ref a :: rest)) rfl hsz (Steps.refl _) (a := adr k sa n0 a) (argsL := as'.map (ren (adr k sa n0))) (rest := rest.map (ren (adr k sa n0)))
            (fun sg hsg => by rw [d3] at hsg; cases hsg; simp [hna, d4]) (by simp [ren]) (hWW rest hW) (hb hby hd) (fun _ _ => ⟨rfl, rfl, by show cells + (H1.length - H.length) ≤ _; omega, by show slots + (tot ws H1 - tot ws H) ≤ _; omega⟩)
          exact hback v' vm₁ B X1 P1 fun target ht => st1.trans ht
        · have E := (S.2.2.2.2 a _ hH).1
          rcases hpd with ⟨wp, ki, wki⟩ | ⟨wd, wsel, rfl⟩
          · obtain ⟨cq, hq1, hq2⟩ := E.cell
            have hpa : s.PrivateAt y' := Cond.privateMethod_at (mvP hZ (hw _ wp) (args := #[]))
            have hsel : (Jvm.Cond.selects y'.cls y' y').before args s = true := by
              have wz : (Jvm.Cond.instantiable y'.cls ki).before args s = true := mvT hZ (hw _ wki)
              obtain ⟨c2, k2, i1, i2, -, i4, -⟩ := Cond.instantiable_spec wz
              exact selects_self_of_private i1 i2 (Bool.or_eq_false_iff.mp i4).1 hpa (mvT hZ (hw _ wi)) w5
            obtain ⟨v', vm₁, B, -, X1, P1, st1⟩ := X.privateBack hx (y := y') hown (mvT hZ (hw _ w1)) (mvT hZ (hw _ wi)) hsel hpa (mvT hZ (hw _ w2)) w5 hB (g := fr (adr k sa n0) m pc ls (as'.reverse ++ .ref a :: rest)) rfl hsz (Steps.refl _) (a := adr k sa n0 a) hq1 hq2 (argsL := as'.map (ren (adr k sa n0))) (rest := rest.map (ren (adr k sa n0)))
              (fun sg hsg => by rw [d3] at hsg; cases hsg; simp [hna, d4]) (by simp [ren]) (hWW rest hW) (hb hby hd) (fun _ _ => ⟨rfl, rfl, by show cells + (H1.length - H.length) ≤ _; omega, by show slots + (tot ws H1 - tot ws H) ≤ _; omega⟩)
            exact hback v' vm₁ B X1 P1 fun target ht => st1.trans ht
          · obtain ⟨cq, kq, qa, qb, qc⟩ := isOf hZ rfl E
            obtain ⟨v', vm₁, B, -, X1, P1, st1⟩ := X.virtualBack hx (y := y') (z := y') hown (mvT hZ (hw _ w1)) (mvT hZ (hw _ wd)) (notFace_of_selects (args := #[]) (mvT hZ (hw _ wsel))) (mvT hZ (hw _ wsel)) (mvT hZ (hw _ wi)) w5 hB qa qc (g := fr (adr k sa n0) m pc ls (as'.reverse ++ .ref a :: rest)) rfl hsz (Steps.refl _) (argsL := as'.map (ren (adr k sa n0))) (rest := rest.map (ren (adr k sa n0)))
              (fun sg hsg => by rw [d3] at hsg; cases hsg; simp [hna, d4]) (by simp [ren]) (hWW rest hW) (hb hby hd) (fun _ _ => ⟨rfl, rfl, by show cells + (H1.length - H.length) ≤ _; omega, by show slots + (tot ws H1 - tot ws H) ≤ _; omega⟩)
            exact hback v' vm₁ B X1 P1 fun target ht => st1.trans ht
      · cases h
end Snd
end Jvm.Own
namespace Jvm.Own
open Sem ClassFile Op Lib Jvm.Stand Jvm.Free Jvm.LawKit Jvm.RoadKit
/-! OWN 6: from here on no machine is in sight -/
theorem run_succ {ws : Ws} {dn : Dn} {k : Nat} : ∀ {n : Nat} {y : MethodName} {bytes : ByteArray} {ret : Option FieldType} {pc : Nat} {ls : List Slot} {st : List Value} {H : AHeap} {r : Option Value × AHeap}, run ws dn k n y bytes ret pc ls st H = some r → run ws dn k (n + 1) y bytes ret pc ls st H = some r
  | 0, _, _, _, _, _, _, _, _, h => by cases h
  | n + 1, y, bytes, ret, pc, ls, st, H, r, h => by
    rw [run] at h
    rw [run]
    split at h
    · cases h
    · exact h
    · exact run_succ h
    · split at h
      · rename_i v H1 g
        rw [run_succ g]
        exact run_succ h
      · cases h
theorem run_mono {ws : Ws} {dn : Dn} {k n n' : Nat} {y : MethodName} {bytes : ByteArray} {ret : Option FieldType} {pc : Nat} {ls : List Slot} {st : List Value} {H : AHeap} {r : Option Value × AHeap} (hn : n ≤ n') (h : run ws dn k n y bytes ret pc ls st H = some r) : run ws dn k n' y bytes ret pc ls st H = some r := by
  induction hn with
  | refl => exact h
  | step _ ih => exact run_succ ih
/-- from here on a run comes to a return at which Q holds -/
def W (ws : Ws) (dn : Dn) (k : Nat) (y : MethodName) (bytes : ByteArray) (ret : Option FieldType) (pc : Nat) (ls : List Slot) (st : List Value) (H : AHeap) (Q : Option Value → AHeap → Prop) : Prop :=
  ∃ n v H', run ws dn k n y bytes ret pc ls st H = some (v, H') ∧ Q v H'
section
variable {ws : Ws} {dn : Dn} {k : Nat} {y : MethodName} {bytes : ByteArray} {ret : Option FieldType} {pc : Nat} {ls : List Slot} {st : List Value} {H : AHeap} {Q : Option Value → AHeap → Prop}
theorem W_step {pc' : Nat} {ls' : List Slot} {st' : List Value} {H' : AHeap} (h : act ws dn k y bytes ret pc ls st H = some (.inr (.inl (pc', ls', st', H')))) : W ws dn k y bytes ret pc ls st H Q = W ws dn k y bytes ret pc' ls' st' H' Q := by
  refine propext ⟨fun ⟨n, v, H1, h1, h2⟩ => ?_, fun ⟨n, v, H1, h1, h2⟩ => ⟨n + 1, v, H1, by rw [run, h]; exact h1, h2⟩⟩
  cases n with
  | zero => cases h1
  | succ n => rw [run, h] at h1; exact ⟨n, v, H1, h1, h2⟩
theorem W_ret {v : Option Value} (h : act ws dn k y bytes ret pc ls st H = some (.inl v)) : W ws dn k y bytes ret pc ls st H Q = Q v H := by
  refine propext ⟨fun ⟨n, v, H1, h1, h2⟩ => ?_, fun h2 => ⟨1, v, H, by rw [run, h], h2⟩⟩
  cases n with
  | zero => cases h1
  | succ n => rw [run, h] at h1; cases h1; exact h2
theorem W_call {y' : MethodName} {b : ByteArray} {r : Option FieldType} {en : List Slot} {rest : List Value} (h : act ws dn k y bytes ret pc ls st H = some (.inr (.inr (y', b, r, en, rest)))) :
    W ws dn k y bytes ret pc ls st H Q = W ws dn k y' b r 0 en [] H (fun v H1 => W ws dn k y bytes ret (pc + 3) ls (v.toList ++ rest) H1 Q) := by
  refine propext ⟨fun ⟨n, v, H1, h1, h2⟩ => ?_, fun ⟨n, v, H1, h1, n', v', H', h2, h3⟩ => ⟨max n n' + 1, v', H', ?_, h3⟩⟩
  · cases n with
    | zero => cases h1
    | succ n =>
      rw [run, h] at h1
      dsimp only at h1
      split at h1
      · rename_i v' H' g; exact ⟨n, v', H', g, n, v, H1, h1, h2⟩
      · cases h1
  · rw [run, h]
    dsimp only
    rw [run_mono (Nat.le_max_left _ _) h1]
    exact run_mono (Nat.le_max_right _ _) h2
theorem W.mono {Q' : Option Value → AHeap → Prop} (h : W ws dn k y bytes ret pc ls st H Q) (hq : ∀ v H', Q v H' → Q' v H') : W ws dn k y bytes ret pc ls st H Q' := by
  obtain ⟨n, v, H', h1, h2⟩ := h; exact ⟨n, v, H', h1, hq _ _ h2⟩
theorem act_x {ins : Instr} {len pc' : Nat} {ls' : List Slot} {st' : List Value} (hd : decode bytes pc = .ok (ins, len)) (hx : xstep ins len pc ls st = some (pc', ls', st')) : act ws dn k y bytes ret pc ls st H = some (.inr (.inl (pc', ls', st', H))) := by
  unfold act; rw [hd]; dsimp only; rw [hx]
theorem act_h {ins : Instr} {len pc' : Nat} {st' : List Value} {H' : AHeap} (hd : decode bytes pc = .ok (ins, len)) (hx : xstep ins len pc ls st = none) (hh : hstep ws k y ins len pc st H = some (pc', st', H')) : act ws dn k y bytes ret pc ls st H = some (.inr (.inl (pc', ls, st', H'))) := by
  unfold act; rw [hd]; dsimp only; rw [hx]; dsimp only; rw [hh]
theorem act_c {ins : Instr} {len : Nat} (hd : decode bytes pc = .ok (ins, len)) (hx : xstep ins len pc ls st = none) (hh : hstep ws k y ins len pc st H = none) : act ws dn k y bytes ret pc ls st H = cstep ws dn y ret ins len pc ls st H := by
  unfold act; rw [hd]; dsimp only; rw [hx]; dsimp only; rw [hh]
/-- a plain step -/
theorem w_x {ins : Instr} {len pc' : Nat} {ls' : List Slot} {st' : List Value} (hd : decode bytes pc = .ok (ins, len)) (hx : xstep ins len pc ls st = some (pc', ls', st')) : W ws dn k y bytes ret pc ls st H Q = W ws dn k y bytes ret pc' ls' st' H Q := W_step (act_x hd hx)
/-- a conditional branch -/
theorem w_if {cd : ClassFile.Cond} {o : Int} {x : Int32} {t : Nat} {P : Prop} [Decidable P] (hd : decode bytes pc = .ok (.ifCond cd o, 3)) (hp : ifCond.holds cd x = decide P) (hj : jmp pc o = some t) :
    W ws dn k y bytes ret pc ls (.int x :: st) H Q = if P then W ws dn k y bytes ret t ls st H Q else W ws dn k y bytes ret (pc + 3) ls st H Q := by
  split
  · exact w_x hd (by simp only [xstep, chk, br, hp, hj, if_true]; simp [*])
  · exact w_x hd (by simp only [xstep, chk, br, hp, hj, if_true]; simp [*])
theorem w_icmp {cd : ClassFile.Cond} {o : Int} {x1 x2 : Int32} {t : Nat} {P : Prop} [Decidable P] (hd : decode bytes pc = .ok (.if_icmp cd o, 3)) (hp : if_icmp.holds cd x1 x2 = decide P) (hj : jmp pc o = some t) :
    W ws dn k y bytes ret pc ls (.int x2 :: .int x1 :: st) H Q = if P then W ws dn k y bytes ret t ls st H Q else W ws dn k y bytes ret (pc + 3) ls st H Q := by
  split
  · exact w_x hd (by simp only [xstep, chk, br, hp, hj, if_true]; simp [*])
  · exact w_x hd (by simp only [xstep, chk, br, hp, hj, if_true]; simp [*])
theorem w_get {i j : Nat} {a : Nat} {C : String} {vs : List Value} {v : Value} (hd : decode bytes pc = .ok (.getfield i, 3)) (hr : gfR ws y.cls i = some (C, j)) (ho : H[a]? = some (.object C, vs)) (hv : vs[j]? = some v) :
    W ws dn k y bytes ret pc ls (.ref a :: st) H Q = W ws dn k y bytes ret (pc + 3) ls (v :: st) H Q :=
  W_step (act_h hd rfl (by simp only [hstep, chk, hGet, hr, ho, hv, if_true, Option.map_some]))
theorem w_put {i j : Nat} {a : Nat} {C : String} {ty : FieldType} {vs : List Value} {v v' : Value} {H' : AHeap} (hd : decode bytes pc = .ok (.putfield i, 3)) (hr : pfR ws y.cls y.name i = some (C, j, ty)) (ho : H[a]? = some (.object C, vs)) (hk : k ≤ a) (hj : j < vs.length) (hv : putv ty v = some v') (hH : H.set a (.object C, vs.set j v') = H') :
    W ws dn k y bytes ret pc ls (v :: .ref a :: st) H Q = W ws dn k y bytes ret (pc + 3) ls st H' Q :=
  W_step (act_h hd rfl (by simp only [hstep, chk, hPut, hr, ho, hv, if_true, true_and, hk, hj, Option.map_some, hH, and_self]))
theorem w_new {i : Nat} {C : String} (hd : decode bytes pc = .ok (.new i, 3)) (hr : hNew ws y.cls i pc H st = some (pc + 3, .ref H.length :: st, H ++ [(.object C, (olay ws C).map dflt)])) :
    W ws dn k y bytes ret pc ls st H Q = W ws dn k y bytes ret (pc + 3) ls (.ref H.length :: st) (H ++ [(.object C, (olay ws C).map dflt)]) Q :=
  W_step (act_h hd rfl (by simp only [hstep, chk, if_true]; exact hr))
theorem w_newA {aty : ArrayType} {n : Int32} {ty : FieldType} (hd : decode bytes pc = .ok (.newarray aty, 2)) (ht : newarray.typeOf aty = ty) (hr : hasArr ws ty = true) (hn : ¬ n < 0) (hb : n.toNatClampNeg * 8 ≤ 536870912) :
    W ws dn k y bytes ret pc ls (.int n :: st) H Q = W ws dn k y bytes ret (pc + 2) ls (.ref H.length :: st) (H ++ [(.array ty, List.replicate n.toNatClampNeg (defaultValue ty))]) Q := by
  subst ht
  exact W_step (act_h hd rfl (by simp only [hstep, chk, hNewA, hr, hn, hb, if_true, not_false_eq_true, and_self]))
/-- may the instruction read an array of that kind? -/
def ldOk : Instr → FieldType → Bool
  | .iaload, .int | .caload, .char | .laload, .long | .baload, .byte | .baload, .boolean => true
  | _, _ => false
def stOk : Instr → FieldType → Bool
  | .iastore, .int | .castore, .char | .lastore, .long | .bastore, .byte | .bastore, .boolean => true
  | _, _ => false
theorem w_ald {ins : Instr} {a : Nat} {j : Int32} {ty : FieldType} {vs : List Value} {v : Value} (hd : decode bytes pc = .ok (ins, 1)) (hi : ldOk ins ty = true) (ho : H[a]? = some (.array ty, vs)) (hj : ¬ j < 0) (hv : vs[j.toNatClampNeg]? = some v) :
    W ws dn k y bytes ret pc ls (.int j :: .ref a :: st) H Q = W ws dn k y bytes ret (pc + 1) ls (v :: st) H Q := by
  unfold ldOk at hi
  split at hi
  all_goals first
    | exact W_step (act_h hd rfl (by simp only [hstep, chk, hLd, okT, okB, ho, hv, hj, if_true, Option.map_some, decide_true, not_false_eq_true, and_self, Bool.or_true, Bool.true_or]))
    | cases hi
theorem w_ast {ins : Instr} {a : Nat} {j : Int32} {ty : FieldType} {vs : List Value} {v v' : Value} {H' : AHeap} (hd : decode bytes pc = .ok (ins, 1)) (hi : stOk ins ty = true) (ho : H[a]? = some (.array ty, vs)) (hk : k ≤ a) (hj : ¬ j < 0) (hl : j.toNatClampNeg < vs.length) (hv : putv ty v = some v') (hH : H.set a (.array ty, vs.set j.toNatClampNeg v') = H') :
    W ws dn k y bytes ret pc ls (v :: .int j :: .ref a :: st) H Q = W ws dn k y bytes ret (pc + 1) ls st H' Q := by
  unfold stOk at hi
  split at hi
  all_goals first
    | exact W_step (act_h hd rfl (by simp only [hstep, chk, hSt, okT, okB, ho, hv, hj, hk, hl, hH, if_true, Option.map_some, decide_true, not_false_eq_true, and_self, Bool.or_true, Bool.true_or]))
    | cases hi
theorem w_len {a : Nat} {ty : FieldType} {vs : List Value} (hd : decode bytes pc = .ok (.arraylength, 1)) (ho : H[a]? = some (.array ty, vs)) :
    W ws dn k y bytes ret pc ls (.ref a :: st) H Q = W ws dn k y bytes ret (pc + 1) ls (.int vs.length.toInt32 :: st) H Q :=
  W_step (act_h hd rfl (by simp only [hstep, chk, hLen, ho, if_true]))
theorem w_ldc {i : Nat} {v : Int32} (hd : decode bytes pc = .ok (.ldc i, 2)) (hr : rCon ws y.cls i = some v) : W ws dn k y bytes ret pc ls st H Q = W ws dn k y bytes ret (pc + 2) ls (.int v :: st) H Q :=
  W_step (act_h hd rfl (by simp only [hstep, chk, hr, if_true, Option.map_some]))
theorem w_ldcw {i : Nat} {v : Int32} (hd : decode bytes pc = .ok (.ldc_w i, 3)) (hr : rCon ws y.cls i = some v) : W ws dn k y bytes ret pc ls st H Q = W ws dn k y bytes ret (pc + 3) ls (.int v :: st) H Q :=
  W_step (act_h hd rfl (by simp only [hstep, chk, hr, if_true, Option.map_some]))
theorem w_ldc2 {i : Nat} {v : Int64} (hd : decode bytes pc = .ok (.ldc2_w i, 3)) (hr : rConL ws y.cls i = some v) : W ws dn k y bytes ret pc ls st H Q = W ws dn k y bytes ret (pc + 3) ls (.long v :: st) H Q :=
  W_step (act_h hd rfl (by simp only [hstep, chk, hr, if_true, Option.map_some]))
theorem w_iret {z : Int32} (hd : decode bytes pc = .ok (.ireturn, 1)) (hr : ret = some .int) : W ws dn k y bytes ret pc ls (.int z :: st) H Q = Q (some (.int z)) H := by
  subst hr; exact W_ret (by rw [act_c hd rfl rfl]; rfl)
theorem w_iretN {z : Int32} {t : FieldType} (hd : decode bytes pc = .ok (.ireturn, 1)) (hr : ret = some t) (ht : t = .int ∨ t = .boolean ∨ t = .byte ∨ t = .char ∨ t = .short) : W ws dn k y bytes ret pc ls (.int z :: st) H Q = Q (some (.int (nar t z))) H := by
  subst hr; exact W_ret (by rw [act_c hd rfl rfl]; simp only [cstep, chk, if_true, ht])
theorem w_lret {z : Int64} (hd : decode bytes pc = .ok (.lreturn, 1)) (hr : ret = some .long) : W ws dn k y bytes ret pc ls [.long z] H Q = Q (some (.long z)) H := by
  subst hr; exact W_ret (by rw [act_c hd rfl rfl]; rfl)
theorem w_vret (hd : decode bytes pc = .ok (.return_, 1)) (hr : ret = none) : W ws dn k y bytes ret pc ls [] H Q = Q none H := by
  subst hr; exact W_ret (by rw [act_c hd rfl rfl]; rfl)
theorem w_obj {i sl : Nat} {a : Nat} (hd : decode bytes pc = .ok (.invokespecial i, 3)) (hr : oR ws dn y i = some sl) (hw : wsum st ≤ sl) : W ws dn k y bytes ret pc ls (.ref a :: st) H Q = W ws dn k y bytes ret (pc + 3) ls st H Q :=
  W_step (by rw [act_c hd rfl rfl]; simp only [cstep, chk, if_true, hr, hw])
theorem w_stat {i mx na sl : Nat} {y' : MethodName} {b : ByteArray} {r : Option FieldType} {as rest : List Value} {en : List Slot} (hd : decode bytes pc = .ok (.invokestatic i, 3)) (hr : sR ws dn y i = some (y', b, mx, r, na, sl)) (hn : as.length = na) (hw : wsum rest ≤ sl) (he : (ent as.reverse).length ≤ mx) (hen : entry as.reverse mx = en) :
    W ws dn k y bytes ret pc ls (as ++ rest) H Q = W ws dn k y' b r 0 en [] H (fun v H1 => W ws dn k y bytes ret (pc + 3) ls (v.toList ++ rest) H1 Q) := by
  subst hn hen
  have e1 : (as ++ rest).take as.length = as := by simp
  have e2 : (as ++ rest).drop as.length = rest := by simp
  exact W_call (by rw [act_c hd rfl rfl]; simp only [cstep, chk, if_true, hr, e1, e2, hw, he, List.length_append, Nat.le_add_right, and_self])
theorem w_spec {i mx na sl a : Nat} {y' : MethodName} {b : ByteArray} {r : Option FieldType} {as rest : List Value} {en : List Slot} (hd : decode bytes pc = .ok (.invokespecial i, 3)) (h0 : oR ws dn y i = none) (hr : nR ws dn y i = some (y', b, mx, r, na, sl)) (hn : as.length = na) (hw : wsum rest ≤ sl) (he : (ent (.ref a :: as.reverse)).length ≤ mx) (hen : entry (.ref a :: as.reverse) mx = en) :
    W ws dn k y bytes ret pc ls (as ++ .ref a :: rest) H Q = W ws dn k y' b r 0 en [] H (fun v H1 => W ws dn k y bytes ret (pc + 3) ls (v.toList ++ rest) H1 Q) := by
  subst hn hen
  have e1 : (as ++ .ref a :: rest).take as.length = as := by simp
  have e2 : (as ++ .ref a :: rest).drop as.length = .ref a :: rest := by simp
  exact W_call (by rw [act_c hd rfl rfl]; simp only [cstep, chk, if_true, h0, hr, e1, e2, hw, he, List.length_append, Nat.le_add_right, and_self])
theorem w_virt {i mx na sl a : Nat} {pv : Bool} {y' : MethodName} {b : ByteArray} {r : Option FieldType} {as rest : List Value} {en : List Slot} {C : String} {vs : List Value} (hd : decode bytes pc = .ok (.invokevirtual i, 3)) (hr : vR ws dn y i = some (pv, y', b, mx, r, na, sl)) (ho : H[a]? = some (.object C, vs)) (hC : C = y'.cls) (hn : as.length = na) (hw : wsum rest ≤ sl) (he : (ent (.ref a :: as.reverse)).length ≤ mx) (hen : entry (.ref a :: as.reverse) mx = en) :
    W ws dn k y bytes ret pc ls (as ++ .ref a :: rest) H Q = W ws dn k y' b r 0 en [] H (fun v H1 => W ws dn k y bytes ret (pc + 3) ls (v.toList ++ rest) H1 Q) := by
  subst hn hen hC
  have e1 : (as ++ .ref a :: rest).take as.length = as := by simp
  have e2 : (as ++ .ref a :: rest).drop as.length = .ref a :: rest := by simp
  exact W_call (by rw [act_c hd rfl rfl]; simp only [cstep, chk, if_true, hr, e1, e2, ho, hw, he, List.length_append, Nat.le_add_right, and_self, or_true])
end
theorem law_of {Z : State} {a0 : Array Value} {ws : Ws} {dn : Dn} {k sa n0 : Nat} (hw : ∀ d ∈ ws, d.before a0 Z = true) (l : Launch) {y : MethodName} {b : ByteArray} {mx f lc rc rs : Nat} {r : Option FieldType} (wsx : List Jvm.Cond) (hp : Jvm.plainName y.cls = true) {as : List Value} (he : (ent as).length ≤ mx) {H : AHeap}
    (hW : W ws dn k y b r 0 (entry as mx) [] H (fun v H1 => v = some (.int 1) ∧ H1.length - H.length ≤ rc ∧ tot ws H1 - tot ws H ≤ rs)) (hdn : ∀ f' l', dnOf dn y = some (f', l') → f' ≤ f ∧ l' ≤ lc) {h : Heap} (S : Sim Z ws k sa n0 H h) :
    MetFree l y (head1 (Jvm.Cond.code y b mx r :: wsx) ({ frames := f, cells := rc, slots := rs, locals := lc } : Room)) (fun a U => a = (as.map (ren (adr k sa n0))).toArray ∧ Z.Warmed39 U.vm ∧ U.heap = h) (fun _ _ _ _ _ => True)
      (fun _ U o U' => ∃ w L, o = .returned w ∧ (w = some (.int 1) ∧ Fr n0 L) ∧ FrameEnd U o U' L rc rs) := by
  obtain ⟨n, v, H1, h1, rfl, h3, h4⟩ := hW
  have M := met_of (snd hw n) l wsx hp he h1 hdn S h3 h4
  intro p e ha hc hk s m args below hf happ hP hK
  obtain ⟨n', o, g1, g2, g3, w, L, rfl, ⟨rfl, -, N⟩, F⟩ := M p e ha hc hk s m args below hf happ hP hK
  exact ⟨n', _, g1, g2, g3, _, L, rfl, ⟨rfl, N⟩, F.1, F.2.1, F.2.2.mono h3 h4⟩
/-- the start of a law whose arguments hold no reference -/
theorem Sim.empty (Z : State) (ws : Ws) (h : Heap) : Sim Z ws 0 0 h.size [] h :=
  ⟨by simp, Nat.le_refl _, Nat.zero_le _, (fun q => absurd q (by decide)), (fun i o q => by simp at q)⟩
/-- the start of a law over one array of ints -/
theorem Sim.script {Z : State} (ws : Ws) {h : Heap} {a : Addr} {c : Cell} {vs : List Int32} (A : Arr Z h a c .int) (e : c.slots = (vs.map Value.int).toArray) : Sim Z ws 1 a h.size [(.array .int, vs.map Value.int)] h := by
  refine ⟨by simp, Nat.le_refl _, Nat.le_refl _, fun _ => A.lt, fun i o q => ?_⟩
  cases i with
  | zero =>
    cases q
    refine ⟨c, A, e.trans ?_⟩
    rw [List.map_map]; rfl
  | succ i => cases q
end Jvm.Own
namespace Jvm.Own
open Sem ClassFile Op Lib Jvm.Stand Jvm.Free Jvm.LawKit Jvm.RoadKit
/-! OWN 7: states of an object as plain functions -/
def ou {α : Type} (s : Nat → α) (i : Nat) (v : α) : Nat → α := fun j => if j = i then v else s j
theorem ou_a {α : Type} (s : Nat → α) (i : Nat) (v : α) (j : Nat) : ou s i v j = if j = i then v else s j := rfl
def pad (b : Nat) (pre : AHeap) : AHeap := (pre ++ List.replicate b (FieldType.int, [])).take b
theorem pad_len (b : Nat) (pre : AHeap) : (pad b pre).length = b := by simp [pad]
theorem pad_eq {b : Nat} {pre : AHeap} (h : pre.length = b) : pad b pre = pre := by subst h; simp [pad]
theorem pad_0 (pre : AHeap) : pad 0 pre = [] := by simp [pad]
theorem tot_cons (ws : Ws) (o : FieldType × List Value) (r : AHeap) : tot ws (o :: r) = cost ws o + tot ws r := by simp [tot]
theorem tot_append (ws : Ws) (a r : AHeap) : tot ws (a ++ r) = tot ws a + tot ws r := by simp [tot]
theorem tot_nil (ws : Ws) : tot ws [] = 0 := rfl
theorem pad_get (b : Nat) (pre r : AHeap) (i : Nat) : (pad b pre ++ r)[b + i]? = r[i]? := by
  rw [List.getElem?_append_right (by rw [pad_len]; omega), pad_len]; congr 1; omega
theorem pad_get0 (b : Nat) (pre r : AHeap) : (pad b pre ++ r)[b]? = r[0]? := pad_get b pre r 0
theorem pad_set (b : Nat) (pre r : AHeap) (i : Nat) (o : FieldType × List Value) : (pad b pre ++ r).set (b + i) o = pad b pre ++ r.set i o := by
  rw [List.set_append_right _ _ (by rw [pad_len]; omega), pad_len]; congr 2; omega
theorem pad_set0 (b : Nat) (pre r : AHeap) (o : FieldType × List Value) : (pad b pre ++ r).set b o = pad b pre ++ r.set 0 o := pad_set b pre r 0 o
theorem rCode_of {ws : Ws} {y : MethodName} {b : ByteArray} {m i : Nat} {r : Option FieldType} (h : ws[i]? = some (.code y b m r)) (h2 : (ws.take i).all (fun d => match d with | .code z _ _ _ => !decide (z = y) | _ => true) = true) : rCode ws y = some (b, m, r) := by
  have e : ws = ws.take i ++ (.code y b m r :: ws.drop (i + 1)) := by
    obtain ⟨hi, hg⟩ := List.getElem?_eq_some_iff.mp h
    rw [← hg, ← List.drop_eq_getElem_cons hi, List.take_append_drop]
  unfold rCode
  rw [e, List.findSome?_append]
  have e1 : (ws.take i).findSome? (fun d => match d with | .code z b m r => if z = y then some (b, m, r) else none | _ => none) = none := by
    rw [List.findSome?_eq_none_iff]
    intro d hd
    have q := List.all_eq_true.mp h2 d hd
    split
    · rename_i z b' m' r'
      simp at q
      simp [q]
    · rfl
  rw [e1]
  simp
theorem cR_of {ws : Ws} {dn : Dn} {y y' : MethodName} {b : ByteArray} {mx i f' l' f l na sl : Nat} {r : Option FieldType} {sig : MethodDescriptor} (h1 : rMth ws y.cls i = some y') (h2 : rCode ws y' = some (b, mx, r)) (h3 : dnOf dn y' = some (f', l')) (h4 : dnOf dn y = some (f, l)) (h5 : parseMethodDescriptor y'.desc = some sig)
    (h6 : decide (hasInit ws y'.cls = true ∧ Jvm.plainName y'.cls = true ∧ y'.cls ≠ "java/lang/invoke/MethodHandle" ∧ y'.cls ≠ "java/lang/invoke/VarHandle" ∧ f' + 1 ≤ f ∧ mx + 11 + l' ≤ l) = true) (h7 : sig.parameters.length = na) (h8 : l - (mx + 11 + l') = sl) : cR ws dn y i = some (y', b, mx, r, na, sl) := by
  subst h7 h8
  unfold cR
  rw [h1]; dsimp only
  rw [h2, h3, h4, h5]; dsimp only
  rw [if_pos (of_decide_eq_true h6)]
theorem sR_of {ws : Ws} {dn : Dn} {y : MethodName} {i : Nat} {q : MethodName × ByteArray × Nat × Option FieldType × Nat × Nat} (h : cR ws dn y i = some q) (hs : hasStat ws q.1 = true) : sR ws dn y i = some q := by
  unfold sR; rw [h]; dsimp only; rw [if_pos hs]
theorem nR_of {ws : Ws} {dn : Dn} {y : MethodName} {i : Nat} {q : MethodName × ByteArray × Nat × Option FieldType × Nat × Nat} (h : cR ws dn y i = some q) (h1 : q.1.name = "<init>") (h2 : hasIM ws q.1 = true) (h3 : q.2.2.2.1 = none) : nR ws dn y i = some q := by
  unfold nR; rw [h]; dsimp only; rw [if_pos ⟨h1, h2, h3⟩]
theorem vR_of {ws : Ws} {dn : Dn} {y : MethodName} {i : Nat} {q : MethodName × ByteArray × Nat × Option FieldType × Nat × Nat} (h : cR ws dn y i = some q) (h1 : hasIM ws q.1 = true) (h2 : decide (hasPriv ws q.1 = true ∧ (rInst ws q.1.cls).isSome = true) = false) (h3 : decide (hasDecl ws q.1 = true ∧ hasSel ws q.1 = true) = true) : vR ws dn y i = some (false, q) := by
  unfold vR; rw [h]; dsimp only; rw [if_pos h1, if_neg (of_decide_eq_false h2), if_pos (of_decide_eq_true h3)]
theorem pR_of {ws : Ws} {dn : Dn} {y : MethodName} {i : Nat} {q : MethodName × ByteArray × Nat × Option FieldType × Nat × Nat} (h : cR ws dn y i = some q) (h1 : hasIM ws q.1 = true) (h2 : decide (hasPriv ws q.1 = true ∧ (rInst ws q.1.cls).isSome = true) = true) : vR ws dn y i = some (true, q) := by
  unfold vR; rw [h]; dsimp only; rw [if_pos h1, if_pos (of_decide_eq_true h2)]
def inB {α : Type} (j : Int32) (l : List α) : Prop := ¬ j < 0 ∧ j.toNatClampNeg < l.length
def getA (l : List Int32) (j : Int32) : Int32 := l.getD j.toNatClampNeg 0
def getL (l : List Int64) (j : Int32) : Int64 := l.getD j.toNatClampNeg 0
def setA {α : Type} (l : List α) (j : Int32) (v : α) : List α := l.set j.toNatClampNeg v
def c1 : Slot → Bool
  | .unset => true
  | .second => false
  | .val v => v.category == 1
theorem c1_u : c1 .unset = true := rfl
theorem c1_i (x : Int32) : c1 (.val (.int x)) = true := rfl
theorem c1_r (a : Nat) : c1 (.val (.ref a)) = true := rfl
theorem c1_n : c1 (.val .null) = true := rfl
theorem i_eq (x y : Int32) : if_icmp.holds .eq x y = decide (x = y) := by simp only [if_icmp.holds]; by_cases h : x = y <;> simp [h]
theorem i_ne (x y : Int32) : if_icmp.holds .ne x y = !decide (x = y) := by simp only [if_icmp.holds]; by_cases h : x = y <;> simp [h]
theorem i_lt (x y : Int32) : if_icmp.holds .lt x y = decide (x < y) := rfl
theorem i_gt (x y : Int32) : if_icmp.holds .gt x y = decide (y < x) := rfl
theorem i_ge (x y : Int32) : if_icmp.holds .ge x y = !decide (x < y) := by
  show decide (y ≤ x) = _
  have e1 : (y ≤ x) ↔ ¬ (x < y) := by rw [Int32.le_iff_toInt_le, Int32.lt_iff_toInt_lt]; omega
  by_cases h : x < y
  · have : ¬ y ≤ x := fun g => e1.mp g h
    simp [h, this]
  · have := e1.mpr h
    simp [h, this]
theorem i_le (x y : Int32) : if_icmp.holds .le x y = !decide (y < x) := i_ge y x
theorem z_eq (x : Int32) : ifCond.holds .eq x = decide (x = 0) := i_eq x 0
theorem z_ne (x : Int32) : ifCond.holds .ne x = !decide (x = 0) := i_ne x 0
theorem z_lt (x : Int32) : ifCond.holds .lt x = decide (x < 0) := rfl
theorem z_gt (x : Int32) : ifCond.holds .gt x = decide (0 < x) := rfl
theorem z_ge (x : Int32) : ifCond.holds .ge x = !decide (x < 0) := i_ge x 0
theorem z_le (x : Int32) : ifCond.holds .le x = !decide (0 < x) := i_le x 0
theorem nb0 : nar .boolean 0 = 0 := by decide
theorem nb1 : nar .boolean 1 = 1 := by decide
section
variable {ws : Ws} {dn : Dn} {k : Nat} {y : MethodName} {bytes : ByteArray} {ret : Option FieldType} {pc : Nat} {ls : List Slot} {st : List Value} {H : AHeap} {Q : Option Value → AHeap → Prop}
theorem W_stuck (h : act ws dn k y bytes ret pc ls st H = none) : W ws dn k y bytes ret pc ls st H Q = False := by
  refine propext ⟨fun ⟨n, v, H1, h1, h2⟩ => ?_, False.elim⟩
  cases n with
  | zero => cases h1
  | succ n => rw [run, h] at h1; cases h1
theorem stl_c1 {i : Nat} {o : Slot} {v : Value} (ho : ls[i]? = some o) (hc : c1 o = true) (hv : v.category = 1) : stl ls i v = some (ls.set i (.val v)) := by
  have h := XS.store1 (l := ls.toArray) (i := i) (v := v) (o := o) (by simpa using ho) (by
    cases o with
    | unset => exact Or.inl rfl
    | second => cases hc
    | val w => exact Or.inr ⟨w, rfl, by simpa [c1] using hc⟩) hv
  unfold stl
  rw [h]; simp
/-- a store of one word -/
theorem w_st {ins : Instr} {len i : Nat} {o : Slot} {v : Value} {p : Value → Bool} {nx : Nat} {ls' : List Slot} (hd : decode bytes pc = .ok (ins, len)) (hx : xstep ins len pc ls (v :: st) = stV p nx i ls (v :: st)) (hp : p v = true) (hv : v.category = 1) (ho : ls[i]? = some o) (hs : ls.set i (.val v) = ls') (hc : c1 o = true) :
    W ws dn k y bytes ret pc ls (v :: st) H Q = W ws dn k y bytes ret nx ls' st H Q := by
  subst hs
  exact w_x hd (by rw [hx]; simp only [stV, hp, if_true, stl_c1 ho hc hv, Option.map_some])
theorem w_iinc {i : Nat} {c : Int} {x z : Int32} {ls' : List Slot} (hd : decode bytes pc = .ok (.iinc i c, 3)) (ho : ls[i]? = some (.val (.int x))) (hz : Int32.ofInt c = z) (hs : ls.set i (.val (.int (x + z))) = ls') :
    W ws dn k y bytes ret pc ls st H Q = W ws dn k y bytes ret (pc + 3) ls' st H Q := by
  subst hs hz
  exact w_x hd (by simp only [xstep, chk, if_true, ho, stl_c1 (v := .int (x + Int32.ofInt c)) ho rfl rfl, Option.map_some])
theorem w_con {ins : Instr} {len nx : Nat} {v v' : Value} (hd : decode bytes pc = .ok (ins, len)) (hx : xstep ins len pc ls st = some (nx, ls, v :: st)) (hv : v = v') : W ws dn k y bytes ret pc ls st H Q = W ws dn k y bytes ret nx ls (v' :: st) H Q := by
  subst hv; exact w_x hd hx
theorem w_ifN {cd : ClassFile.Cond} {o : Int} {x : Int32} {t : Nat} {P : Prop} [Decidable P] (hd : decode bytes pc = .ok (.ifCond cd o, 3)) (hp : ifCond.holds cd x = !decide P) (hj : jmp pc o = some t) :
    W ws dn k y bytes ret pc ls (.int x :: st) H Q = if P then W ws dn k y bytes ret (pc + 3) ls st H Q else W ws dn k y bytes ret t ls st H Q := by
  split
  · exact w_x hd (by simp only [xstep, chk, br, hp, hj, if_true]; simp [*])
  · exact w_x hd (by simp only [xstep, chk, br, hp, hj, if_true]; simp [*])
theorem w_icmpN {cd : ClassFile.Cond} {o : Int} {x1 x2 : Int32} {t : Nat} {P : Prop} [Decidable P] (hd : decode bytes pc = .ok (.if_icmp cd o, 3)) (hp : if_icmp.holds cd x1 x2 = !decide P) (hj : jmp pc o = some t) :
    W ws dn k y bytes ret pc ls (.int x2 :: .int x1 :: st) H Q = if P then W ws dn k y bytes ret (pc + 3) ls st H Q else W ws dn k y bytes ret t ls st H Q := by
  split
  · exact w_x hd (by simp only [xstep, chk, br, hp, hj, if_true]; simp [*])
  · exact w_x hd (by simp only [xstep, chk, br, hp, hj, if_true]; simp [*])
theorem ld_stuck {ins : Instr} {a : Nat} {j : Int32} {ty : FieldType} {vs : List Value} (hd : decode bytes pc = .ok (ins, 1)) (hi : ldOk ins ty = true) (ho : H[a]? = some (.array ty, vs)) (hj : ¬ (¬ j < 0 ∧ j.toNatClampNeg < vs.length)) : act ws dn k y bytes ret pc ls (.int j :: .ref a :: st) H = none := by
  have hv : j < 0 ∨ vs[j.toNatClampNeg]? = none := by
    by_cases q : j < 0
    · exact Or.inl q
    · exact Or.inr (List.getElem?_eq_none (Nat.le_of_not_lt fun g => hj ⟨q, g⟩))
  unfold ldOk at hi
  split at hi
  all_goals first
    | (rw [act_c hd rfl (by rcases hv with q | q <;> simp [hstep, chk, hLd, okT, okB, ho, q])]; rfl)
    | cases hi
theorem st_stuck {ins : Instr} {a : Nat} {j : Int32} {ty : FieldType} {vs : List Value} {v : Value} (hd : decode bytes pc = .ok (ins, 1)) (hi : stOk ins ty = true) (ho : H[a]? = some (.array ty, vs)) (hj : ¬ (¬ j < 0 ∧ j.toNatClampNeg < vs.length)) : act ws dn k y bytes ret pc ls (v :: .int j :: .ref a :: st) H = none := by
  have hv : ¬ (¬ j < 0 ∧ j.toNatClampNeg < vs.length) := hj
  unfold stOk at hi
  split at hi
  all_goals first
    | (rw [act_c hd rfl (by simp only [hstep, chk, hSt, okT, okB, ho, if_true]; rw [if_neg (fun q => hv q.2.2)])]; rfl)
    | cases hi
theorem w_ild {ins : Instr} {a : Nat} {j : Int32} {ty : FieldType} {l : List Int32} (hd : decode bytes pc = .ok (ins, 1)) (hi : ldOk ins ty = true) (ho : H[a]? = some (.array ty, l.map Value.int)) :
    W ws dn k y bytes ret pc ls (.int j :: .ref a :: st) H Q = (inB j l ∧ W ws dn k y bytes ret (pc + 1) ls (.int (getA l j) :: st) H Q) := by
  by_cases h : inB j l
  · rw [w_ald hd hi ho h.1 (v := .int (getA l j)) (by simp [getA, h.2])]
    simp [h]
  · rw [W_stuck (ld_stuck hd hi ho (by simpa [inB] using h))]
    simp [h]
theorem w_lld {a : Nat} {j : Int32} {l : List Int64} (hd : decode bytes pc = .ok (.laload, 1)) (ho : H[a]? = some (.array .long, l.map Value.long)) :
    W ws dn k y bytes ret pc ls (.int j :: .ref a :: st) H Q = (inB j l ∧ W ws dn k y bytes ret (pc + 1) ls (.long (getL l j) :: st) H Q) := by
  by_cases h : inB j l
  · rw [w_ald hd rfl ho h.1 (v := .long (getL l j)) (by simp [getL, h.2])]
    simp [h]
  · rw [W_stuck (ld_stuck hd rfl ho (by simpa [inB] using h))]
    simp [h]
theorem w_ist {ins : Instr} {a : Nat} {j v v' : Int32} {ty : FieldType} {l : List Int32} {H' : AHeap} (hd : decode bytes pc = .ok (ins, 1)) (hi : stOk ins ty = true) (ho : H[a]? = some (.array ty, l.map Value.int)) (hk : k ≤ a) (hv : putv ty (.int v) = some (.int v')) (hH : H.set a (.array ty, (setA l j v').map Value.int) = H') :
    W ws dn k y bytes ret pc ls (.int v :: .int j :: .ref a :: st) H Q = (inB j l ∧ W ws dn k y bytes ret (pc + 1) ls st H' Q) := by
  by_cases h : inB j l
  · rw [w_ast (H' := H') hd hi ho hk h.1 (by simpa using h.2) hv (by rw [← hH, setA, List.map_set])]
    simp [h]
  · rw [W_stuck (st_stuck hd hi ho (by simpa [inB] using h))]
    simp [h]
theorem w_lst {a : Nat} {j : Int32} {v : Int64} {l : List Int64} {H' : AHeap} (hd : decode bytes pc = .ok (.lastore, 1)) (ho : H[a]? = some (.array .long, l.map Value.long)) (hk : k ≤ a) (hH : H.set a (.array .long, (setA l j v).map Value.long) = H') :
    W ws dn k y bytes ret pc ls (.long v :: .int j :: .ref a :: st) H Q = (inB j l ∧ W ws dn k y bytes ret (pc + 1) ls st H' Q) := by
  by_cases h : inB j l
  · rw [w_ast (H' := H') hd rfl ho hk h.1 (by simpa using h.2) rfl (by rw [← hH, setA, List.map_set])]
    simp [h]
  · rw [W_stuck (st_stuck hd rfl ho (by simpa [inB] using h))]
    simp [h]
theorem w_div {ins : Instr} {f : Int32 → Int32 → Int32} {x z : Int32} (hd : decode bytes pc = .ok (ins, 1)) (hx : ∀ st, xstep ins 1 pc ls st = d2 f (pc + 1) ls st) (hh : hstep ws k y ins 1 pc (.int z :: .int x :: st) H = none) (hc : cstep ws dn y ret ins 1 pc ls (.int z :: .int x :: st) H = none) :
    W ws dn k y bytes ret pc ls (.int z :: .int x :: st) H Q = (z ≠ 0 ∧ W ws dn k y bytes ret (pc + 1) ls (.int (f x z) :: st) H Q) := by
  by_cases h : z = 0
  · rw [W_stuck (by rw [act_c hd (by rw [hx]; simp [d2, h]) hh, hc])]; simp [h]
  · rw [w_x (pc' := pc + 1) (ls' := ls) (st' := .int (f x z) :: st) hd (by rw [hx]; simp only [d2, h, if_false])]; simp [h]
/-- a field's array made in a constructor -/
theorem w_iarr {i j p1 p2 p3 : Nat} {C : String} {vs : List Value} {r : AHeap} {n : Int32} {v : Value} {aty : ArrayType} {ty at' : FieldType} {l0 : Slot} {lr : List Slot} {ins : Instr} {len : Nat} {b : Nat} (hl : l0 = .val (.ref b)) (hH : H.length = b) (hk : k ≤ b)
    (d0 : decode bytes pc = .ok (.aload_n 0, 1)) (e0 : pc + 1 = p1) (dn1 : decode bytes p1 = .ok (ins, len)) (hx : ∀ st, xstep ins len p1 (l0 :: lr) st = some (p2, l0 :: lr, v :: st)) (hv : v = .int n) (d2' : decode bytes p2 = .ok (.newarray aty, 2)) (ht : newarray.typeOf aty = ty) (hr : hasArr ws ty = true) (hn : ¬ n < 0) (hb : n.toNatClampNeg * 8 ≤ 536870912) (e3 : p2 + 2 = p3)
    (d3 : decode bytes p3 = .ok (.putfield i, 3)) (hp : pfR ws y.cls y.name i = some (C, j, .array at')) (hj : j < vs.length) :
    W ws dn k y bytes ret pc (l0 :: lr) [] (H ++ (.object C, vs) :: r) Q = W ws dn k y bytes ret (p3 + 3) (l0 :: lr) [] (H ++ (.object C, vs.set j (.ref (b + (r.length + 1)))) :: (r ++ [(.array ty, List.replicate n.toNatClampNeg (defaultValue ty))])) Q := by
  subst hl e0 e3 hv hH
  rw [w_x d0 (ls' := .val (.ref H.length) :: lr) (st' := [.ref H.length]) (pc' := pc + 1) rfl, w_x dn1 (hx _), w_newA d2' ht hr hn hb]
  have e1 : (H ++ (FieldType.object C, vs) :: r).length = H.length + (r.length + 1) := by simp
  rw [e1, w_put d3 hp (vs := vs) (H' := H ++ (.object C, vs.set j (.ref (H.length + (r.length + 1)))) :: (r ++ [(.array ty, List.replicate n.toNatClampNeg (defaultValue ty))])) (by simp) hk hj rfl (by simp)]
/-- a field's plain value put at a constructor's head -/
theorem w_iint {i j p1 p2 : Nat} {C : String} {vs : List Value} {r : AHeap} {v v0 v' : Value} {ty : FieldType} {l0 : Slot} {lr : List Slot} {ins : Instr} {len : Nat} {b : Nat} (hl : l0 = .val (.ref b)) (hH : H.length = b) (hk : k ≤ b)
    (d0 : decode bytes pc = .ok (.aload_n 0, 1)) (e0 : pc + 1 = p1) (dn1 : decode bytes p1 = .ok (ins, len)) (hx : ∀ st, xstep ins len p1 (l0 :: lr) st = some (p2, l0 :: lr, v0 :: st)) (hv : v0 = v)
    (d3 : decode bytes p2 = .ok (.putfield i, 3)) (hp : pfR ws y.cls y.name i = some (C, j, ty)) (hv' : putv ty v = some v') (hj : j < vs.length) :
    W ws dn k y bytes ret pc (l0 :: lr) [] (H ++ (.object C, vs) :: r) Q = W ws dn k y bytes ret (p2 + 3) (l0 :: lr) [] (H ++ (.object C, vs.set j v') :: r) Q := by
  subst hl e0 hv hH
  rw [w_x d0 (ls' := .val (.ref H.length) :: lr) (st' := [.ref H.length]) (pc' := pc + 1) rfl, w_x dn1 (hx _)]
  rw [w_put d3 hp (vs := vs) (H' := H ++ (.object C, vs.set j v') :: r) (by simp) hk hj hv' (by simp)]
end
end Jvm.Own
namespace Jvm.Own
open Sem ClassFile Op Lib Jvm.Stand Jvm.Free Jvm.LawKit Jvm.RoadKit
theorem getA_rep (n : Nat) (j : Int32) : getA (List.replicate n 0) j = 0 := by
  simp only [getA, List.getD_eq_getElem?_getD, List.getElem?_replicate]
  split <;> rfl
/-- the array's words as plain ints -/
theorem script_of {s : State} {a : Addr} {c : Cell} (hf : Fit s) (A : Arr s s.heap a c .int) (hl : c.slots.size < 2 ^ 31) : ∃ vs : List Int32, c.slots = (vs.map Value.int).toArray := by
  have h : ∀ v ∈ c.slots.toList, ∃ x : Int32, v = .int x := fun v hv => by
    obtain ⟨i, hi, e⟩ := List.getElem_of_mem hv
    have hi' : i < c.slots.size := by simpa using hi
    have e1 : (Nat.toInt32 i).toNatClampNeg = i := by simp only [Int32.toNatClampNeg, len_toInt (Nat.lt_trans hi' hl)]; rfl
    obtain ⟨w, h1, h2⟩ := elem_fit hf A (idx_in hi' hl)
    rw [e1] at h1
    have : w = v := by rw [Array.getElem?_eq_getElem hi'] at h1; rw [← e]; simpa using (Option.some.inj h1).symm
    subst this
    exact fit_I h2 (by simp)
  have g : ∀ l : List Value, (∀ v ∈ l, ∃ x : Int32, v = .int x) → ∃ vs : List Int32, l = vs.map Value.int := fun l => by
    induction l with
    | nil => exact fun _ => ⟨[], rfl⟩
    | cons v r ih =>
      intro q
      obtain ⟨x, rfl⟩ := q _ (List.mem_cons_self ..)
      obtain ⟨vs, e⟩ := ih fun w hw => q w (List.mem_cons_of_mem _ hw)
      exact ⟨x :: vs, by rw [e]; rfl⟩
  obtain ⟨vs, e⟩ := g _ h
  exact ⟨vs, by rw [← e]⟩
end Jvm.Own
namespace Jvm.Own
open Sem ClassFile Op Lib Jvm.Stand Jvm.Free Jvm.LawKit Jvm.RoadKit
/-! OWN 8: small facts on arrays and ints -/
theorem toNat_eq (j : Int32) : j.toNatClampNeg = j.toInt.toNat := rfl
theorem lt_i {x y : Int32} : x < y ↔ x.toInt < y.toInt := Int32.lt_iff_toInt_lt
theorem inB_iff {α : Type} {j : Int32} {l : List α} : inB j l ↔ 0 ≤ j.toInt ∧ j.toInt < (l.length : Int) := by
  have e0 : (0 : Int32).toInt = 0 := rfl
  unfold inB
  rw [lt_i, toNat_eq, e0]
  omega
theorem inB_lt {α : Type} {j n : Int32} {l : List α} (hl : (l.length : Int) = n.toInt) (h0 : ¬ j < 0) (h1 : j < n) : inB j l := by
  have e0 : (0 : Int32).toInt = 0 := rfl
  rw [inB_iff]
  rw [lt_i] at h0 h1
  rw [e0] at h0
  omega
theorem setA_len {α : Type} (l : List α) (j : Int32) (v : α) : (setA l j v).length = l.length := List.length_set
theorem getA_set {l : List Int32} {i j v : Int32} (h : inB i l) : getA (setA l i v) j = if j.toNatClampNeg = i.toNatClampNeg then v else getA l j := by
  simp only [getA, setA, List.getD_eq_getElem?_getD, List.getElem?_set]
  by_cases e : j.toNatClampNeg = i.toNatClampNeg
  · rw [e]; simp [h.2]
  · simp [e, Ne.symm e]
theorem getA_set2 (l : List Int32) (i j v : Int32) : getA (setA l i v) j = if j.toNatClampNeg = i.toNatClampNeg ∧ i.toNatClampNeg < l.length then v else getA l j := by
  simp only [getA, setA, List.getD_eq_getElem?_getD, List.getElem?_set]
  by_cases e : j.toNatClampNeg = i.toNatClampNeg
  · rw [e]
    by_cases q : i.toNatClampNeg < l.length <;> simp [q]
  · simp [e, Ne.symm e]
theorem len_ou {B A : Nat → List Int32} {j : Nat} {l : List Int32} (h : ∀ i, (A i).length = (B i).length) (hl : l.length = (B j).length) : ∀ i, (ou A j l i).length = (B i).length := fun i => by
  rw [ou_a]
  split
  · rename_i e; rw [e]; exact hl
  · exact h i
end Jvm.Own
namespace Jvm.Own
open Sem ClassFile Op Lib Jvm.Stand Jvm.Free Jvm.LawKit Jvm.RoadKit
/-! OWN 9: a normal form of states; masks and ranges -/
theorem ou_same {α : Type} (s : Nat → α) (i : Nat) (v w : α) : ou (ou s i v) i w = ou s i w := by
  funext j
  simp only [ou_a]
  by_cases h : j = i <;> simp [h]
theorem ou_comm {α : Type} {s : Nat → α} {i j : Nat} {v w : α} (h : j < i) : ou (ou s i v) j w = ou (ou s j w) (i + 0) v := by
  show ou (ou s i v) j w = ou (ou s j w) i v
  funext k
  simp only [ou_a]
  by_cases h1 : k = j
  · have h2 : ¬ k = i := by omega
    simp [h1]
    intro h3; omega
  · simp [h1]
theorem setA_same {α : Type} (l : List α) (i : Int32) (v w : α) : setA (setA l i v) i w = setA l i w := by
  simp only [setA, List.set_set]
theorem clamp_ne {i j : Int32} (h0 : ¬ j < 0) (h : j < i) : j.toNatClampNeg ≠ i.toNatClampNeg := by
  have e0 : (0 : Int32).toInt = 0 := rfl
  rw [lt_i] at *
  rw [toNat_eq, toNat_eq]
  omega
theorem setA_comm {α : Type} {l : List α} {i j : Int32} {v w : α} (h0 : ¬ j < 0) (h : j < i) : setA (setA l i v) j w = setA (setA l j w) (i + 0) v := by
  rw [Int32.add_zero]
  simp only [setA]
  exact List.set_comm _ _ (Ne.symm (clamp_ne h0 h))
theorem lt_irr (x : Int32) : (x < x) = False := by
  apply propext
  rw [lt_i]
  constructor
  · intro h; omega
  · exact False.elim
theorem bit1 (x : Int32) : x &&& 1 = 0 ∨ x &&& 1 = 1 := by
  have h : (x &&& 1).toBitVec.toNat = x.toBitVec.toNat % 2 := by
    rw [Int32.toBitVec_and, BitVec.toNat_and]
    exact Nat.and_one_is_mod _
  rcases Nat.mod_two_eq_zero_or_one x.toBitVec.toNat with e | e
  · exact Or.inl (Int32.toBitVec_inj.mp (BitVec.eq_of_toNat_eq (by rw [h, e]; rfl)))
  · exact Or.inr (Int32.toBitVec_inj.mp (BitVec.eq_of_toNat_eq (by rw [h, e]; rfl)))
theorem and_bd (x m : Int32) (hm : m.toBitVec.toNat < 2147483648) : 0 ≤ (x &&& m).toInt ∧ (x &&& m).toInt ≤ (m.toBitVec.toNat : Int) := by
  have h : (x &&& m).toBitVec.toNat ≤ m.toBitVec.toNat := by
    rw [Int32.toBitVec_and, BitVec.toNat_and]
    exact Nat.and_le_right
  have e : (x &&& m).toInt = ((x &&& m).toBitVec.toNat : Int) := BitVec.toInt_eq_toNat_of_lt (by omega)
  rw [e]
  omega
theorem rng {x : Int32} {n : Nat} (h0 : 0 ≤ x.toInt) (h1 : x.toInt < n) : ∃ k, k < n ∧ x = Int32.ofNat k := by
  have e : (x.toInt.toNat : Int) = x.toInt := Int.toNat_of_nonneg h0
  refine ⟨x.toInt.toNat, by omega, ?_⟩
  have e2 : Int32.ofNat x.toInt.toNat = Int32.ofInt (x.toInt.toNat : Int) := rfl
  rw [e2, e, Int32.ofInt_toInt]
theorem getL_rep (n : Nat) (j : Int32) : getL (List.replicate n 0) j = 0 := by
  simp only [getL, List.getD_eq_getElem?_getD, List.getElem?_replicate]
  split <;> rfl
theorem getL_set2 (l : List Int64) (i j : Int32) (v : Int64) : getL (setA l i v) j = if j.toNatClampNeg = i.toNatClampNeg ∧ i.toNatClampNeg < l.length then v else getL l j := by
  simp only [getL, setA, List.getD_eq_getElem?_getD, List.getElem?_set]
  by_cases e : j.toNatClampNeg = i.toNatClampNeg
  · rw [e]
    by_cases q : i.toNatClampNeg < l.length <;> simp [q]
  · simp [e, Ne.symm e]
theorem add_i {a b : Int32} (h : -2147483648 ≤ a.toInt + b.toInt) (h' : a.toInt + b.toInt < 2147483648) : (a + b).toInt = a.toInt + b.toInt := by
  rw [Int32.toInt_add]
  have e : ((2 ^ 32 : Nat) : Int) = 4294967296 := rfl
  exact Int.bmod_eq_of_le (by rw [e]; omega) (by rw [e]; omega)
theorem sub_i {a b : Int32} (h : -2147483648 ≤ a.toInt - b.toInt) (h' : a.toInt - b.toInt < 2147483648) : (a - b).toInt = a.toInt - b.toInt := by
  rw [Int32.toInt_sub]
  have e : ((2 ^ 32 : Nat) : Int) = 4294967296 := rfl
  exact Int.bmod_eq_of_le (by rw [e]; omega) (by rw [e]; omega)
theorem mul_i {a b : Int32} (h : -2147483648 ≤ a.toInt * b.toInt) (h' : a.toInt * b.toInt < 2147483648) : (a * b).toInt = a.toInt * b.toInt := by
  rw [Int32.toInt_mul]
  have e : ((2 ^ 32 : Nat) : Int) = 4294967296 := rfl
  exact Int.bmod_eq_of_le (by rw [e]; omega) (by rw [e]; omega)
theorem i_0 : (0 : Int32).toInt = 0 := rfl
theorem i_1 : (1 : Int32).toInt = 1 := rfl
theorem add1_i {a : Int32} (h : a.toInt < 2147483647) : (a + 1).toInt = a.toInt + 1 := by
  have := Int32.le_toInt a
  exact add_i (by rw [i_1]; omega) (by rw [i_1]; omega)
theorem nn_i {a : Int32} : ¬ a < 0 ↔ 0 ≤ a.toInt := by rw [lt_i, i_0]; omega
theorem succ_nn {a : Int32} (h0 : ¬ a < 0) (h : a.toInt < 2147483647) : ¬ a + 1 < 0 := by
  rw [nn_i] at *
  rw [add1_i h]
  omega
theorem inB_set {α : Type} {l : List α} {i j : Int32} {v : α} : inB j (setA l i v) = inB j l := by
  simp only [inB, setA_len]
theorem pad_1 (c : FieldType × List Value) : pad 1 [c] = [c] := rfl
def okS (l : Slot) : Prop := l = .unset ∨ ∃ z : Int32, l = .val (.int z)
theorem okS_u : okS .unset := Or.inl rfl
theorem okS_i (z : Int32) : okS (.val (.int z)) := Or.inr ⟨z, rfl⟩
end Jvm.Own
namespace Jvm.Pilot.@@N@@
open Jvm Jvm.ClassFile Sem Op Lib Jvm.Free Jvm.Stand Jvm.LawKit Jvm.RoadKit Bundle Jvm.Own Jvm.Pilot.@@N@@.Jvm.D
/-- frames and words that each method asks -/
def dn : Dn := [(⟨"MacroAssembler", "<init>", "(I)V"⟩, 1, 12), (⟨"MacroAssembler", "feedLong", "(J)I"⟩, 1, 17), (⟨"MacroAssembler", "byteOf", "(JI)I"⟩, 0, 0), (⟨"MacroAssembler", "validChar", "(I)Z"⟩, 0, 0), (⟨"MacroAssembler", "resetResult", "()V"⟩, 0, 0), (⟨"MacroAssembler", "assemble", "()I"⟩, 7, 107), (⟨"MacroAssembler", "startRun", "()V"⟩, 1, 14), (⟨"MacroAssembler", "splitLines", "()V"⟩, 0, 0), (⟨"MacroAssembler", "setInput", "(II)V"⟩, 0, 0), (⟨"MacroAssembler", "step", "()V"⟩, 6, 94), (⟨"MacroAssembler", "copyLine", "(I)V"⟩, 0, 0), (⟨"MacroAssembler", "normalLine", "()V"⟩, 5, 73), (⟨"MacroAssembler", "findLabel", "()V"⟩, 3, 41), (⟨"MacroAssembler", "skipSpaces", "(I)I"⟩, 0, 0), (⟨"MacroAssembler", "identStart", "(I)Z"⟩, 0, 0), (⟨"MacroAssembler", "identEnd", "(I)I"⟩, 2, 26), (⟨"MacroAssembler", "identChar", "(I)Z"⟩, 1, 13), (⟨"MacroAssembler", "pack", "(II)J"⟩, 0, 0), (⟨"MacroAssembler", "wordAt", "(I)J"⟩, 3, 41), (⟨"MacroAssembler", "kwCode", "(I)J"⟩, 1, 19), (⟨"MacroAssembler", "word", "(IIIII)J"⟩, 0, 0), (⟨"MacroAssembler", "kwIndex", "(J)I"⟩, 2, 32), (⟨"MacroAssembler", "statement", "(I)V"⟩, 4, 60), (⟨"MacroAssembler", "tokenize", "(I)V"⟩, 3, 41), (⟨"MacroAssembler", "addTok", "(IIJ)V"⟩, 0, 0), (⟨"MacroAssembler", "formSimple", "(I)V"⟩, 1, 13), (⟨"MacroAssembler", "defineLabel", "()V"⟩, 0, 0), (⟨"MacroAssembler", "emit", "(I)V"⟩, 0, 0), (⟨"MacroAssembler", "exhausted", "()V"⟩, 0, 0), (⟨"MacroAssembler", "finish", "()V"⟩, 0, 0), (⟨"MacroAssembler", "buildListing", "()V"⟩, 4, 64), (⟨"MacroAssembler", "listOne", "(I)I"⟩, 3, 50), (⟨"MacroAssembler", "putKw", "(I)V"⟩, 2, 35), (⟨"MacroAssembler", "putName", "(J)V"⟩, 1, 18), (⟨"MacroAssembler", "nameLen", "(J)I"⟩, 0, 0), (⟨"MacroAssembler", "nameChar", "(JII)I"⟩, 0, 0), (⟨"MacroAssembler", "lstPut", "(I)V"⟩, 0, 0), (⟨"MacroAssembler", "sourceLength", "()I"⟩, 0, 0), (⟨"MacroAssembler", "status", "()I"⟩, 0, 0), (⟨"MacroAssembler", "imageLength", "()I"⟩, 0, 0), (⟨"MacroAssembler", "imageByte", "(I)I"⟩, 1, 13), (⟨"MacroAssemblerL2", "okc", "(I)Z"⟩, 0, 0), (⟨"MacroAssemblerL2", "law", "(IJ)Z"⟩, 8, 120)]
/- scalars: 0=T_IDENT 1=T_NUM 2=B_IF 3=B_REPT 4=B_CALL 5=M_NORMAL 6=M_DEFINING 7=M_SKIPPING 8=K_FALSE 9=K_ELSEPART 10=K_REPT0 11=KW_DB 12=KW_EQU 13=KW_MACRO 14=KW_ENDM 15=KW_IF 16=KW_ELSE 17=KW_ENDIF 18=KW_REPT 19=KW_ENDR 20=ARG_SLOT 21=cap 22=srcLen 23=nLines 24=status 25=errLine 26=imgLen 27=expCount 28=symN 29=lstLen 30=digFrom 31=macN 32=defMac 33=sp 34=curMac 35=curLine 36=curEnd 37=mode 38=skipKind 39=skipDepth 40=reads 41=loc 42=counter 43=hLine 44=err 45=done 46=lnLen 47=hasLabel 48=restAt 49=tkN 50=exConst 51=exUN 52=exUnknown 53=exDoom 54=fixN; arrays: 0=src@1 1=lineStart@2 2=lineEnd@3 3=img@4 4=symVal@6 5=lst@7 6=dig@8 7=macStart@10 8=macEnd@11 9=bType@12 10=bElse@13 11=bRemain@14 12=bRetMac@15 13=bRetLine@16 14=bK@17 15=bErr@18 16=bArgN@19 17=argLen@20 18=argCh@21 19=ln@22 20=tkType@23 21=tkVal@24 22=exUCoef@27 23=fixAddr@28 24=fixErr@29 25=fixConst@30 26=fixUN@31 27=fixDoom@32 28=fixUCoef@34; longs: ['labelCode']; long arrays: ['symCode', 'macCode', 'tkCode', 'exUCode', 'fixUCode'] -/
def objv (b : Nat) (s : Nat → Int32) (L : Nat → Int64) : List Value := [.int (s 0), .int (s 1), .int (s 2), .int (s 3), .int (s 4), .int (s 5), .int (s 6), .int (s 7), .int (s 8), .int (s 9), .int (s 10), .int (s 11), .int (s 12), .int (s 13), .int (s 14), .int (s 15), .int (s 16), .int (s 17), .int (s 18), .int (s 19), .int (s 20), .ref (b + 1), .ref (b + 2), .ref (b + 3), .ref (b + 4), .ref (b + 5), .ref (b + 6), .ref (b + 7), .ref (b + 8), .ref (b + 9), .ref (b + 10), .ref (b + 11), .ref (b + 12), .ref (b + 13), .ref (b + 14), .ref (b + 15), .ref (b + 16), .ref (b + 17), .ref (b + 18), .ref (b + 19), .ref (b + 20), .ref (b + 21), .ref (b + 22), .ref (b + 23), .ref (b + 24), .ref (b + 25), .ref (b + 26), .ref (b + 27), .ref (b + 28), .ref (b + 29), .ref (b + 30), .ref (b + 31), .ref (b + 32), .ref (b + 33), .ref (b + 34), .int (s 21), .int (s 22), .int (s 24), .int (s 26), .int (s 28), .int (s 27), .int (s 25), .int (s 29), .int (s 31), .int (s 33), .int (s 41), .int (s 42), .int (s 40), .int (s 54), .int (s 37), .int (s 38), .int (s 39), .int (s 32), .int (s 44), .int (s 45), .int (s 43), .int (s 23), .int (s 34), .int (s 35), .int (s 36), .int (s 46), .int (s 47), .int (s 48), .int (s 49), .long (L 0)]
def put (b : Nat) (pre : AHeap) (s : Nat → Int32) (A : Nat → List Int32) (L : Nat → Int64) (B : Nat → List Int64) (post : AHeap) : AHeap := pad b pre ++ ((.object "MacroAssembler", objv b s L) :: (.array .char, (A 0).map Value.int) :: (.array .int, (A 1).map Value.int) :: (.array .int, (A 2).map Value.int) :: (.array .int, (A 3).map Value.int) :: (.array .long, (B 0).map Value.long) :: (.array .int, (A 4).map Value.int) :: (.array .char, (A 5).map Value.int) :: (.array .char, (A 6).map Value.int) :: (.array .long, (B 1).map Value.long) :: (.array .int, (A 7).map Value.int) :: (.array .int, (A 8).map Value.int) :: (.array .int, (A 9).map Value.int) :: (.array .boolean, (A 10).map Value.int) :: (.array .int, (A 11).map Value.int) :: (.array .int, (A 12).map Value.int) :: (.array .int, (A 13).map Value.int) :: (.array .int, (A 14).map Value.int) :: (.array .int, (A 15).map Value.int) :: (.array .int, (A 16).map Value.int) :: (.array .int, (A 17).map Value.int) :: (.array .char, (A 18).map Value.int) :: (.array .char, (A 19).map Value.int) :: (.array .int, (A 20).map Value.int) :: (.array .int, (A 21).map Value.int) :: (.array .long, (B 2).map Value.long) :: (.array .long, (B 3).map Value.long) :: (.array .int, (A 22).map Value.int) :: (.array .int, (A 23).map Value.int) :: (.array .int, (A 24).map Value.int) :: (.array .int, (A 25).map Value.int) :: (.array .int, (A 26).map Value.int) :: (.array .boolean, (A 27).map Value.int) :: (.array .long, (B 4).map Value.long) :: (.array .int, (A 28).map Value.int) :: post)
theorem put_o {b : Nat} {pre : AHeap} {s : Nat → Int32} {A : Nat → List Int32} {L : Nat → Int64} {B : Nat → List Int64} {post : AHeap} : (put b pre s A L B post)[b]? = some (.object "MacroAssembler", objv b s L) := pad_get0 _ _ _
theorem put_a0 {b : Nat} {pre : AHeap} {s : Nat → Int32} {A : Nat → List Int32} {L : Nat → Int64} {B : Nat → List Int64} {post : AHeap} : (put b pre s A L B post)[b + 1]? = some (.array .char, (A 0).map Value.int) := pad_get _ _ _ 1
theorem put_w0 {b : Nat} {pre : AHeap} {s : Nat → Int32} {A : Nat → List Int32} {L : Nat → Int64} {B : Nat → List Int64} {post : AHeap} {l : List Int32} : (put b pre s A L B post).set (b + 1) (.array .char, l.map Value.int) = put b pre s (ou A 0 l) L B post := pad_set _ _ _ 1 _
theorem put_a1 {b : Nat} {pre : AHeap} {s : Nat → Int32} {A : Nat → List Int32} {L : Nat → Int64} {B : Nat → List Int64} {post : AHeap} : (put b pre s A L B post)[b + 2]? = some (.array .int, (A 1).map Value.int) := pad_get _ _ _ 2
theorem put_w1 {b : Nat} {pre : AHeap} {s : Nat → Int32} {A : Nat → List Int32} {L : Nat → Int64} {B : Nat → List Int64} {post : AHeap} {l : List Int32} : (put b pre s A L B post).set (b + 2) (.array .int, l.map Value.int) = put b pre s (ou A 1 l) L B post := pad_set _ _ _ 2 _
theorem put_a2 {b : Nat} {pre : AHeap} {s : Nat → Int32} {A : Nat → List Int32} {L : Nat → Int64} {B : Nat → List Int64} {post : AHeap} : (put b pre s A L B post)[b + 3]? = some (.array .int, (A 2).map Value.int) := pad_get _ _ _ 3
theorem put_w2 {b : Nat} {pre : AHeap} {s : Nat → Int32} {A : Nat → List Int32} {L : Nat → Int64} {B : Nat → List Int64} {post : AHeap} {l : List Int32} : (put b pre s A L B post).set (b + 3) (.array .int, l.map Value.int) = put b pre s (ou A 2 l) L B post := pad_set _ _ _ 3 _
theorem put_a3 {b : Nat} {pre : AHeap} {s : Nat → Int32} {A : Nat → List Int32} {L : Nat → Int64} {B : Nat → List Int64} {post : AHeap} : (put b pre s A L B post)[b + 4]? = some (.array .int, (A 3).map Value.int) := pad_get _ _ _ 4
theorem put_w3 {b : Nat} {pre : AHeap} {s : Nat → Int32} {A : Nat → List Int32} {L : Nat → Int64} {B : Nat → List Int64} {post : AHeap} {l : List Int32} : (put b pre s A L B post).set (b + 4) (.array .int, l.map Value.int) = put b pre s (ou A 3 l) L B post := pad_set _ _ _ 4 _
theorem put_l0 {b : Nat} {pre : AHeap} {s : Nat → Int32} {A : Nat → List Int32} {L : Nat → Int64} {B : Nat → List Int64} {post : AHeap} : (put b pre s A L B post)[b + 5]? = some (.array .long, (B 0).map Value.long) := pad_get _ _ _ 5
theorem put_lw0 {b : Nat} {pre : AHeap} {s : Nat → Int32} {A : Nat → List Int32} {L : Nat → Int64} {B : Nat → List Int64} {post : AHeap} {l : List Int64} : (put b pre s A L B post).set (b + 5) (.array .long, l.map Value.long) = put b pre s A L (ou B 0 l) post := pad_set _ _ _ 5 _
theorem put_a4 {b : Nat} {pre : AHeap} {s : Nat → Int32} {A : Nat → List Int32} {L : Nat → Int64} {B : Nat → List Int64} {post : AHeap} : (put b pre s A L B post)[b + 6]? = some (.array .int, (A 4).map Value.int) := pad_get _ _ _ 6
theorem put_w4 {b : Nat} {pre : AHeap} {s : Nat → Int32} {A : Nat → List Int32} {L : Nat → Int64} {B : Nat → List Int64} {post : AHeap} {l : List Int32} : (put b pre s A L B post).set (b + 6) (.array .int, l.map Value.int) = put b pre s (ou A 4 l) L B post := pad_set _ _ _ 6 _
theorem put_a5 {b : Nat} {pre : AHeap} {s : Nat → Int32} {A : Nat → List Int32} {L : Nat → Int64} {B : Nat → List Int64} {post : AHeap} : (put b pre s A L B post)[b + 7]? = some (.array .char, (A 5).map Value.int) := pad_get _ _ _ 7
theorem put_w5 {b : Nat} {pre : AHeap} {s : Nat → Int32} {A : Nat → List Int32} {L : Nat → Int64} {B : Nat → List Int64} {post : AHeap} {l : List Int32} : (put b pre s A L B post).set (b + 7) (.array .char, l.map Value.int) = put b pre s (ou A 5 l) L B post := pad_set _ _ _ 7 _
theorem put_a6 {b : Nat} {pre : AHeap} {s : Nat → Int32} {A : Nat → List Int32} {L : Nat → Int64} {B : Nat → List Int64} {post : AHeap} : (put b pre s A L B post)[b + 8]? = some (.array .char, (A 6).map Value.int) := pad_get _ _ _ 8
theorem put_w6 {b : Nat} {pre : AHeap} {s : Nat → Int32} {A : Nat → List Int32} {L : Nat → Int64} {B : Nat → List Int64} {post : AHeap} {l : List Int32} : (put b pre s A L B post).set (b + 8) (.array .char, l.map Value.int) = put b pre s (ou A 6 l) L B post := pad_set _ _ _ 8 _
theorem put_l1 {b : Nat} {pre : AHeap} {s : Nat → Int32} {A : Nat → List Int32} {L : Nat → Int64} {B : Nat → List Int64} {post : AHeap} : (put b pre s A L B post)[b + 9]? = some (.array .long, (B 1).map Value.long) := pad_get _ _ _ 9
theorem put_lw1 {b : Nat} {pre : AHeap} {s : Nat → Int32} {A : Nat → List Int32} {L : Nat → Int64} {B : Nat → List Int64} {post : AHeap} {l : List Int64} : (put b pre s A L B post).set (b + 9) (.array .long, l.map Value.long) = put b pre s A L (ou B 1 l) post := pad_set _ _ _ 9 _
theorem put_a7 {b : Nat} {pre : AHeap} {s : Nat → Int32} {A : Nat → List Int32} {L : Nat → Int64} {B : Nat → List Int64} {post : AHeap} : (put b pre s A L B post)[b + 10]? = some (.array .int, (A 7).map Value.int) := pad_get _ _ _ 10
theorem put_w7 {b : Nat} {pre : AHeap} {s : Nat → Int32} {A : Nat → List Int32} {L : Nat → Int64} {B : Nat → List Int64} {post : AHeap} {l : List Int32} : (put b pre s A L B post).set (b + 10) (.array .int, l.map Value.int) = put b pre s (ou A 7 l) L B post := pad_set _ _ _ 10 _
theorem put_a8 {b : Nat} {pre : AHeap} {s : Nat → Int32} {A : Nat → List Int32} {L : Nat → Int64} {B : Nat → List Int64} {post : AHeap} : (put b pre s A L B post)[b + 11]? = some (.array .int, (A 8).map Value.int) := pad_get _ _ _ 11
theorem put_w8 {b : Nat} {pre : AHeap} {s : Nat → Int32} {A : Nat → List Int32} {L : Nat → Int64} {B : Nat → List Int64} {post : AHeap} {l : List Int32} : (put b pre s A L B post).set (b + 11) (.array .int, l.map Value.int) = put b pre s (ou A 8 l) L B post := pad_set _ _ _ 11 _
theorem put_a9 {b : Nat} {pre : AHeap} {s : Nat → Int32} {A : Nat → List Int32} {L : Nat → Int64} {B : Nat → List Int64} {post : AHeap} : (put b pre s A L B post)[b + 12]? = some (.array .int, (A 9).map Value.int) := pad_get _ _ _ 12
theorem put_w9 {b : Nat} {pre : AHeap} {s : Nat → Int32} {A : Nat → List Int32} {L : Nat → Int64} {B : Nat → List Int64} {post : AHeap} {l : List Int32} : (put b pre s A L B post).set (b + 12) (.array .int, l.map Value.int) = put b pre s (ou A 9 l) L B post := pad_set _ _ _ 12 _
theorem put_a10 {b : Nat} {pre : AHeap} {s : Nat → Int32} {A : Nat → List Int32} {L : Nat → Int64} {B : Nat → List Int64} {post : AHeap} : (put b pre s A L B post)[b + 13]? = some (.array .boolean, (A 10).map Value.int) := pad_get _ _ _ 13
theorem put_w10 {b : Nat} {pre : AHeap} {s : Nat → Int32} {A : Nat → List Int32} {L : Nat → Int64} {B : Nat → List Int64} {post : AHeap} {l : List Int32} : (put b pre s A L B post).set (b + 13) (.array .boolean, l.map Value.int) = put b pre s (ou A 10 l) L B post := pad_set _ _ _ 13 _
theorem put_a11 {b : Nat} {pre : AHeap} {s : Nat → Int32} {A : Nat → List Int32} {L : Nat → Int64} {B : Nat → List Int64} {post : AHeap} : (put b pre s A L B post)[b + 14]? = some (.array .int, (A 11).map Value.int) := pad_get _ _ _ 14
theorem put_w11 {b : Nat} {pre : AHeap} {s : Nat → Int32} {A : Nat → List Int32} {L : Nat → Int64} {B : Nat → List Int64} {post : AHeap} {l : List Int32} : (put b pre s A L B post).set (b + 14) (.array .int, l.map Value.int) = put b pre s (ou A 11 l) L B post := pad_set _ _ _ 14 _
theorem put_a12 {b : Nat} {pre : AHeap} {s : Nat → Int32} {A : Nat → List Int32} {L : Nat → Int64} {B : Nat → List Int64} {post : AHeap} : (put b pre s A L B post)[b + 15]? = some (.array .int, (A 12).map Value.int) := pad_get _ _ _ 15
theorem put_w12 {b : Nat} {pre : AHeap} {s : Nat → Int32} {A : Nat → List Int32} {L : Nat → Int64} {B : Nat → List Int64} {post : AHeap} {l : List Int32} : (put b pre s A L B post).set (b + 15) (.array .int, l.map Value.int) = put b pre s (ou A 12 l) L B post := pad_set _ _ _ 15 _
theorem put_a13 {b : Nat} {pre : AHeap} {s : Nat → Int32} {A : Nat → List Int32} {L : Nat → Int64} {B : Nat → List Int64} {post : AHeap} : (put b pre s A L B post)[b + 16]? = some (.array .int, (A 13).map Value.int) := pad_get _ _ _ 16
theorem put_w13 {b : Nat} {pre : AHeap} {s : Nat → Int32} {A : Nat → List Int32} {L : Nat → Int64} {B : Nat → List Int64} {post : AHeap} {l : List Int32} : (put b pre s A L B post).set (b + 16) (.array .int, l.map Value.int) = put b pre s (ou A 13 l) L B post := pad_set _ _ _ 16 _
theorem put_a14 {b : Nat} {pre : AHeap} {s : Nat → Int32} {A : Nat → List Int32} {L : Nat → Int64} {B : Nat → List Int64} {post : AHeap} : (put b pre s A L B post)[b + 17]? = some (.array .int, (A 14).map Value.int) := pad_get _ _ _ 17
theorem put_w14 {b : Nat} {pre : AHeap} {s : Nat → Int32} {A : Nat → List Int32} {L : Nat → Int64} {B : Nat → List Int64} {post : AHeap} {l : List Int32} : (put b pre s A L B post).set (b + 17) (.array .int, l.map Value.int) = put b pre s (ou A 14 l) L B post := pad_set _ _ _ 17 _
theorem put_a15 {b : Nat} {pre : AHeap} {s : Nat → Int32} {A : Nat → List Int32} {L : Nat → Int64} {B : Nat → List Int64} {post : AHeap} : (put b pre s A L B post)[b + 18]? = some (.array .int, (A 15).map Value.int) := pad_get _ _ _ 18
theorem put_w15 {b : Nat} {pre : AHeap} {s : Nat → Int32} {A : Nat → List Int32} {L : Nat → Int64} {B : Nat → List Int64} {post : AHeap} {l : List Int32} : (put b pre s A L B post).set (b + 18) (.array .int, l.map Value.int) = put b pre s (ou A 15 l) L B post := pad_set _ _ _ 18 _
theorem put_a16 {b : Nat} {pre : AHeap} {s : Nat → Int32} {A : Nat → List Int32} {L : Nat → Int64} {B : Nat → List Int64} {post : AHeap} : (put b pre s A L B post)[b + 19]? = some (.array .int, (A 16).map Value.int) := pad_get _ _ _ 19
theorem put_w16 {b : Nat} {pre : AHeap} {s : Nat → Int32} {A : Nat → List Int32} {L : Nat → Int64} {B : Nat → List Int64} {post : AHeap} {l : List Int32} : (put b pre s A L B post).set (b + 19) (.array .int, l.map Value.int) = put b pre s (ou A 16 l) L B post := pad_set _ _ _ 19 _
theorem put_a17 {b : Nat} {pre : AHeap} {s : Nat → Int32} {A : Nat → List Int32} {L : Nat → Int64} {B : Nat → List Int64} {post : AHeap} : (put b pre s A L B post)[b + 20]? = some (.array .int, (A 17).map Value.int) := pad_get _ _ _ 20
theorem put_w17 {b : Nat} {pre : AHeap} {s : Nat → Int32} {A : Nat → List Int32} {L : Nat → Int64} {B : Nat → List Int64} {post : AHeap} {l : List Int32} : (put b pre s A L B post).set (b + 20) (.array .int, l.map Value.int) = put b pre s (ou A 17 l) L B post := pad_set _ _ _ 20 _
theorem put_a18 {b : Nat} {pre : AHeap} {s : Nat → Int32} {A : Nat → List Int32} {L : Nat → Int64} {B : Nat → List Int64} {post : AHeap} : (put b pre s A L B post)[b + 21]? = some (.array .char, (A 18).map Value.int) := pad_get _ _ _ 21
theorem put_w18 {b : Nat} {pre : AHeap} {s : Nat → Int32} {A : Nat → List Int32} {L : Nat → Int64} {B : Nat → List Int64} {post : AHeap} {l : List Int32} : (put b pre s A L B post).set (b + 21) (.array .char, l.map Value.int) = put b pre s (ou A 18 l) L B post := pad_set _ _ _ 21 _
theorem put_a19 {b : Nat} {pre : AHeap} {s : Nat → Int32} {A : Nat → List Int32} {L : Nat → Int64} {B : Nat → List Int64} {post : AHeap} : (put b pre s A L B post)[b + 22]? = some (.array .char, (A 19).map Value.int) := pad_get _ _ _ 22
theorem put_w19 {b : Nat} {pre : AHeap} {s : Nat → Int32} {A : Nat → List Int32} {L : Nat → Int64} {B : Nat → List Int64} {post : AHeap} {l : List Int32} : (put b pre s A L B post).set (b + 22) (.array .char, l.map Value.int) = put b pre s (ou A 19 l) L B post := pad_set _ _ _ 22 _
theorem put_a20 {b : Nat} {pre : AHeap} {s : Nat → Int32} {A : Nat → List Int32} {L : Nat → Int64} {B : Nat → List Int64} {post : AHeap} : (put b pre s A L B post)[b + 23]? = some (.array .int, (A 20).map Value.int) := pad_get _ _ _ 23
theorem put_w20 {b : Nat} {pre : AHeap} {s : Nat → Int32} {A : Nat → List Int32} {L : Nat → Int64} {B : Nat → List Int64} {post : AHeap} {l : List Int32} : (put b pre s A L B post).set (b + 23) (.array .int, l.map Value.int) = put b pre s (ou A 20 l) L B post := pad_set _ _ _ 23 _
theorem put_a21 {b : Nat} {pre : AHeap} {s : Nat → Int32} {A : Nat → List Int32} {L : Nat → Int64} {B : Nat → List Int64} {post : AHeap} : (put b pre s A L B post)[b + 24]? = some (.array .int, (A 21).map Value.int) := pad_get _ _ _ 24
theorem put_w21 {b : Nat} {pre : AHeap} {s : Nat → Int32} {A : Nat → List Int32} {L : Nat → Int64} {B : Nat → List Int64} {post : AHeap} {l : List Int32} : (put b pre s A L B post).set (b + 24) (.array .int, l.map Value.int) = put b pre s (ou A 21 l) L B post := pad_set _ _ _ 24 _
theorem put_l2 {b : Nat} {pre : AHeap} {s : Nat → Int32} {A : Nat → List Int32} {L : Nat → Int64} {B : Nat → List Int64} {post : AHeap} : (put b pre s A L B post)[b + 25]? = some (.array .long, (B 2).map Value.long) := pad_get _ _ _ 25
theorem put_lw2 {b : Nat} {pre : AHeap} {s : Nat → Int32} {A : Nat → List Int32} {L : Nat → Int64} {B : Nat → List Int64} {post : AHeap} {l : List Int64} : (put b pre s A L B post).set (b + 25) (.array .long, l.map Value.long) = put b pre s A L (ou B 2 l) post := pad_set _ _ _ 25 _
theorem put_l3 {b : Nat} {pre : AHeap} {s : Nat → Int32} {A : Nat → List Int32} {L : Nat → Int64} {B : Nat → List Int64} {post : AHeap} : (put b pre s A L B post)[b + 26]? = some (.array .long, (B 3).map Value.long) := pad_get _ _ _ 26
theorem put_lw3 {b : Nat} {pre : AHeap} {s : Nat → Int32} {A : Nat → List Int32} {L : Nat → Int64} {B : Nat → List Int64} {post : AHeap} {l : List Int64} : (put b pre s A L B post).set (b + 26) (.array .long, l.map Value.long) = put b pre s A L (ou B 3 l) post := pad_set _ _ _ 26 _
theorem put_a22 {b : Nat} {pre : AHeap} {s : Nat → Int32} {A : Nat → List Int32} {L : Nat → Int64} {B : Nat → List Int64} {post : AHeap} : (put b pre s A L B post)[b + 27]? = some (.array .int, (A 22).map Value.int) := pad_get _ _ _ 27
theorem put_w22 {b : Nat} {pre : AHeap} {s : Nat → Int32} {A : Nat → List Int32} {L : Nat → Int64} {B : Nat → List Int64} {post : AHeap} {l : List Int32} : (put b pre s A L B post).set (b + 27) (.array .int, l.map Value.int) = put b pre s (ou A 22 l) L B post := pad_set _ _ _ 27 _
theorem put_a23 {b : Nat} {pre : AHeap} {s : Nat → Int32} {A : Nat → List Int32} {L : Nat → Int64} {B : Nat → List Int64} {post : AHeap} : (put b pre s A L B post)[b + 28]? = some (.array .int, (A 23).map Value.int) := pad_get _ _ _ 28
theorem put_w23 {b : Nat} {pre : AHeap} {s : Nat → Int32} {A : Nat → List Int32} {L : Nat → Int64} {B : Nat → List Int64} {post : AHeap} {l : List Int32} : (put b pre s A L B post).set (b + 28) (.array .int, l.map Value.int) = put b pre s (ou A 23 l) L B post := pad_set _ _ _ 28 _
theorem put_a24 {b : Nat} {pre : AHeap} {s : Nat → Int32} {A : Nat → List Int32} {L : Nat → Int64} {B : Nat → List Int64} {post : AHeap} : (put b pre s A L B post)[b + 29]? = some (.array .int, (A 24).map Value.int) := pad_get _ _ _ 29
theorem put_w24 {b : Nat} {pre : AHeap} {s : Nat → Int32} {A : Nat → List Int32} {L : Nat → Int64} {B : Nat → List Int64} {post : AHeap} {l : List Int32} : (put b pre s A L B post).set (b + 29) (.array .int, l.map Value.int) = put b pre s (ou A 24 l) L B post := pad_set _ _ _ 29 _
theorem put_a25 {b : Nat} {pre : AHeap} {s : Nat → Int32} {A : Nat → List Int32} {L : Nat → Int64} {B : Nat → List Int64} {post : AHeap} : (put b pre s A L B post)[b + 30]? = some (.array .int, (A 25).map Value.int) := pad_get _ _ _ 30
theorem put_w25 {b : Nat} {pre : AHeap} {s : Nat → Int32} {A : Nat → List Int32} {L : Nat → Int64} {B : Nat → List Int64} {post : AHeap} {l : List Int32} : (put b pre s A L B post).set (b + 30) (.array .int, l.map Value.int) = put b pre s (ou A 25 l) L B post := pad_set _ _ _ 30 _
theorem put_a26 {b : Nat} {pre : AHeap} {s : Nat → Int32} {A : Nat → List Int32} {L : Nat → Int64} {B : Nat → List Int64} {post : AHeap} : (put b pre s A L B post)[b + 31]? = some (.array .int, (A 26).map Value.int) := pad_get _ _ _ 31
theorem put_w26 {b : Nat} {pre : AHeap} {s : Nat → Int32} {A : Nat → List Int32} {L : Nat → Int64} {B : Nat → List Int64} {post : AHeap} {l : List Int32} : (put b pre s A L B post).set (b + 31) (.array .int, l.map Value.int) = put b pre s (ou A 26 l) L B post := pad_set _ _ _ 31 _
theorem put_a27 {b : Nat} {pre : AHeap} {s : Nat → Int32} {A : Nat → List Int32} {L : Nat → Int64} {B : Nat → List Int64} {post : AHeap} : (put b pre s A L B post)[b + 32]? = some (.array .boolean, (A 27).map Value.int) := pad_get _ _ _ 32
theorem put_w27 {b : Nat} {pre : AHeap} {s : Nat → Int32} {A : Nat → List Int32} {L : Nat → Int64} {B : Nat → List Int64} {post : AHeap} {l : List Int32} : (put b pre s A L B post).set (b + 32) (.array .boolean, l.map Value.int) = put b pre s (ou A 27 l) L B post := pad_set _ _ _ 32 _
theorem put_l4 {b : Nat} {pre : AHeap} {s : Nat → Int32} {A : Nat → List Int32} {L : Nat → Int64} {B : Nat → List Int64} {post : AHeap} : (put b pre s A L B post)[b + 33]? = some (.array .long, (B 4).map Value.long) := pad_get _ _ _ 33
theorem put_lw4 {b : Nat} {pre : AHeap} {s : Nat → Int32} {A : Nat → List Int32} {L : Nat → Int64} {B : Nat → List Int64} {post : AHeap} {l : List Int64} : (put b pre s A L B post).set (b + 33) (.array .long, l.map Value.long) = put b pre s A L (ou B 4 l) post := pad_set _ _ _ 33 _
theorem put_a28 {b : Nat} {pre : AHeap} {s : Nat → Int32} {A : Nat → List Int32} {L : Nat → Int64} {B : Nat → List Int64} {post : AHeap} : (put b pre s A L B post)[b + 34]? = some (.array .int, (A 28).map Value.int) := pad_get _ _ _ 34
theorem put_w28 {b : Nat} {pre : AHeap} {s : Nat → Int32} {A : Nat → List Int32} {L : Nat → Int64} {B : Nat → List Int64} {post : AHeap} {l : List Int32} : (put b pre s A L B post).set (b + 34) (.array .int, l.map Value.int) = put b pre s (ou A 28 l) L B post := pad_set _ _ _ 34 _
theorem put_s0 {b : Nat} {pre : AHeap} {s : Nat → Int32} {A : Nat → List Int32} {L : Nat → Int64} {B : Nat → List Int64} {post : AHeap} {v : Int32} : (put b pre s A L B post).set b (.object "MacroAssembler", (objv b s L).set 0 (.int v)) = put b pre (ou s 0 v) A L B post := pad_set0 _ _ _ _
theorem put_s1 {b : Nat} {pre : AHeap} {s : Nat → Int32} {A : Nat → List Int32} {L : Nat → Int64} {B : Nat → List Int64} {post : AHeap} {v : Int32} : (put b pre s A L B post).set b (.object "MacroAssembler", (objv b s L).set 1 (.int v)) = put b pre (ou s 1 v) A L B post := pad_set0 _ _ _ _
theorem put_s2 {b : Nat} {pre : AHeap} {s : Nat → Int32} {A : Nat → List Int32} {L : Nat → Int64} {B : Nat → List Int64} {post : AHeap} {v : Int32} : (put b pre s A L B post).set b (.object "MacroAssembler", (objv b s L).set 2 (.int v)) = put b pre (ou s 2 v) A L B post := pad_set0 _ _ _ _
theorem put_s3 {b : Nat} {pre : AHeap} {s : Nat → Int32} {A : Nat → List Int32} {L : Nat → Int64} {B : Nat → List Int64} {post : AHeap} {v : Int32} : (put b pre s A L B post).set b (.object "MacroAssembler", (objv b s L).set 3 (.int v)) = put b pre (ou s 3 v) A L B post := pad_set0 _ _ _ _
theorem put_s4 {b : Nat} {pre : AHeap} {s : Nat → Int32} {A : Nat → List Int32} {L : Nat → Int64} {B : Nat → List Int64} {post : AHeap} {v : Int32} : (put b pre s A L B post).set b (.object "MacroAssembler", (objv b s L).set 4 (.int v)) = put b pre (ou s 4 v) A L B post := pad_set0 _ _ _ _
theorem put_s5 {b : Nat} {pre : AHeap} {s : Nat → Int32} {A : Nat → List Int32} {L : Nat → Int64} {B : Nat → List Int64} {post : AHeap} {v : Int32} : (put b pre s A L B post).set b (.object "MacroAssembler", (objv b s L).set 5 (.int v)) = put b pre (ou s 5 v) A L B post := pad_set0 _ _ _ _
theorem put_s6 {b : Nat} {pre : AHeap} {s : Nat → Int32} {A : Nat → List Int32} {L : Nat → Int64} {B : Nat → List Int64} {post : AHeap} {v : Int32} : (put b pre s A L B post).set b (.object "MacroAssembler", (objv b s L).set 6 (.int v)) = put b pre (ou s 6 v) A L B post := pad_set0 _ _ _ _
theorem put_s7 {b : Nat} {pre : AHeap} {s : Nat → Int32} {A : Nat → List Int32} {L : Nat → Int64} {B : Nat → List Int64} {post : AHeap} {v : Int32} : (put b pre s A L B post).set b (.object "MacroAssembler", (objv b s L).set 7 (.int v)) = put b pre (ou s 7 v) A L B post := pad_set0 _ _ _ _
theorem put_s8 {b : Nat} {pre : AHeap} {s : Nat → Int32} {A : Nat → List Int32} {L : Nat → Int64} {B : Nat → List Int64} {post : AHeap} {v : Int32} : (put b pre s A L B post).set b (.object "MacroAssembler", (objv b s L).set 8 (.int v)) = put b pre (ou s 8 v) A L B post := pad_set0 _ _ _ _
theorem put_s9 {b : Nat} {pre : AHeap} {s : Nat → Int32} {A : Nat → List Int32} {L : Nat → Int64} {B : Nat → List Int64} {post : AHeap} {v : Int32} : (put b pre s A L B post).set b (.object "MacroAssembler", (objv b s L).set 9 (.int v)) = put b pre (ou s 9 v) A L B post := pad_set0 _ _ _ _
theorem put_s10 {b : Nat} {pre : AHeap} {s : Nat → Int32} {A : Nat → List Int32} {L : Nat → Int64} {B : Nat → List Int64} {post : AHeap} {v : Int32} : (put b pre s A L B post).set b (.object "MacroAssembler", (objv b s L).set 10 (.int v)) = put b pre (ou s 10 v) A L B post := pad_set0 _ _ _ _
theorem put_s11 {b : Nat} {pre : AHeap} {s : Nat → Int32} {A : Nat → List Int32} {L : Nat → Int64} {B : Nat → List Int64} {post : AHeap} {v : Int32} : (put b pre s A L B post).set b (.object "MacroAssembler", (objv b s L).set 11 (.int v)) = put b pre (ou s 11 v) A L B post := pad_set0 _ _ _ _
theorem put_s12 {b : Nat} {pre : AHeap} {s : Nat → Int32} {A : Nat → List Int32} {L : Nat → Int64} {B : Nat → List Int64} {post : AHeap} {v : Int32} : (put b pre s A L B post).set b (.object "MacroAssembler", (objv b s L).set 12 (.int v)) = put b pre (ou s 12 v) A L B post := pad_set0 _ _ _ _
theorem put_s13 {b : Nat} {pre : AHeap} {s : Nat → Int32} {A : Nat → List Int32} {L : Nat → Int64} {B : Nat → List Int64} {post : AHeap} {v : Int32} : (put b pre s A L B post).set b (.object "MacroAssembler", (objv b s L).set 13 (.int v)) = put b pre (ou s 13 v) A L B post := pad_set0 _ _ _ _
theorem put_s14 {b : Nat} {pre : AHeap} {s : Nat → Int32} {A : Nat → List Int32} {L : Nat → Int64} {B : Nat → List Int64} {post : AHeap} {v : Int32} : (put b pre s A L B post).set b (.object "MacroAssembler", (objv b s L).set 14 (.int v)) = put b pre (ou s 14 v) A L B post := pad_set0 _ _ _ _
theorem put_s15 {b : Nat} {pre : AHeap} {s : Nat → Int32} {A : Nat → List Int32} {L : Nat → Int64} {B : Nat → List Int64} {post : AHeap} {v : Int32} : (put b pre s A L B post).set b (.object "MacroAssembler", (objv b s L).set 15 (.int v)) = put b pre (ou s 15 v) A L B post := pad_set0 _ _ _ _
theorem put_s16 {b : Nat} {pre : AHeap} {s : Nat → Int32} {A : Nat → List Int32} {L : Nat → Int64} {B : Nat → List Int64} {post : AHeap} {v : Int32} : (put b pre s A L B post).set b (.object "MacroAssembler", (objv b s L).set 16 (.int v)) = put b pre (ou s 16 v) A L B post := pad_set0 _ _ _ _
theorem put_s17 {b : Nat} {pre : AHeap} {s : Nat → Int32} {A : Nat → List Int32} {L : Nat → Int64} {B : Nat → List Int64} {post : AHeap} {v : Int32} : (put b pre s A L B post).set b (.object "MacroAssembler", (objv b s L).set 17 (.int v)) = put b pre (ou s 17 v) A L B post := pad_set0 _ _ _ _
theorem put_s18 {b : Nat} {pre : AHeap} {s : Nat → Int32} {A : Nat → List Int32} {L : Nat → Int64} {B : Nat → List Int64} {post : AHeap} {v : Int32} : (put b pre s A L B post).set b (.object "MacroAssembler", (objv b s L).set 18 (.int v)) = put b pre (ou s 18 v) A L B post := pad_set0 _ _ _ _
theorem put_s19 {b : Nat} {pre : AHeap} {s : Nat → Int32} {A : Nat → List Int32} {L : Nat → Int64} {B : Nat → List Int64} {post : AHeap} {v : Int32} : (put b pre s A L B post).set b (.object "MacroAssembler", (objv b s L).set 19 (.int v)) = put b pre (ou s 19 v) A L B post := pad_set0 _ _ _ _
theorem put_s20 {b : Nat} {pre : AHeap} {s : Nat → Int32} {A : Nat → List Int32} {L : Nat → Int64} {B : Nat → List Int64} {post : AHeap} {v : Int32} : (put b pre s A L B post).set b (.object "MacroAssembler", (objv b s L).set 20 (.int v)) = put b pre (ou s 20 v) A L B post := pad_set0 _ _ _ _
theorem put_s21 {b : Nat} {pre : AHeap} {s : Nat → Int32} {A : Nat → List Int32} {L : Nat → Int64} {B : Nat → List Int64} {post : AHeap} {v : Int32} : (put b pre s A L B post).set b (.object "MacroAssembler", (objv b s L).set 55 (.int v)) = put b pre (ou s 21 v) A L B post := pad_set0 _ _ _ _
theorem put_s22 {b : Nat} {pre : AHeap} {s : Nat → Int32} {A : Nat → List Int32} {L : Nat → Int64} {B : Nat → List Int64} {post : AHeap} {v : Int32} : (put b pre s A L B post).set b (.object "MacroAssembler", (objv b s L).set 56 (.int v)) = put b pre (ou s 22 v) A L B post := pad_set0 _ _ _ _
theorem put_s24 {b : Nat} {pre : AHeap} {s : Nat → Int32} {A : Nat → List Int32} {L : Nat → Int64} {B : Nat → List Int64} {post : AHeap} {v : Int32} : (put b pre s A L B post).set b (.object "MacroAssembler", (objv b s L).set 57 (.int v)) = put b pre (ou s 24 v) A L B post := pad_set0 _ _ _ _
theorem put_s26 {b : Nat} {pre : AHeap} {s : Nat → Int32} {A : Nat → List Int32} {L : Nat → Int64} {B : Nat → List Int64} {post : AHeap} {v : Int32} : (put b pre s A L B post).set b (.object "MacroAssembler", (objv b s L).set 58 (.int v)) = put b pre (ou s 26 v) A L B post := pad_set0 _ _ _ _
theorem put_s28 {b : Nat} {pre : AHeap} {s : Nat → Int32} {A : Nat → List Int32} {L : Nat → Int64} {B : Nat → List Int64} {post : AHeap} {v : Int32} : (put b pre s A L B post).set b (.object "MacroAssembler", (objv b s L).set 59 (.int v)) = put b pre (ou s 28 v) A L B post := pad_set0 _ _ _ _
theorem put_s27 {b : Nat} {pre : AHeap} {s : Nat → Int32} {A : Nat → List Int32} {L : Nat → Int64} {B : Nat → List Int64} {post : AHeap} {v : Int32} : (put b pre s A L B post).set b (.object "MacroAssembler", (objv b s L).set 60 (.int v)) = put b pre (ou s 27 v) A L B post := pad_set0 _ _ _ _
theorem put_s25 {b : Nat} {pre : AHeap} {s : Nat → Int32} {A : Nat → List Int32} {L : Nat → Int64} {B : Nat → List Int64} {post : AHeap} {v : Int32} : (put b pre s A L B post).set b (.object "MacroAssembler", (objv b s L).set 61 (.int v)) = put b pre (ou s 25 v) A L B post := pad_set0 _ _ _ _
theorem put_s29 {b : Nat} {pre : AHeap} {s : Nat → Int32} {A : Nat → List Int32} {L : Nat → Int64} {B : Nat → List Int64} {post : AHeap} {v : Int32} : (put b pre s A L B post).set b (.object "MacroAssembler", (objv b s L).set 62 (.int v)) = put b pre (ou s 29 v) A L B post := pad_set0 _ _ _ _
theorem put_s31 {b : Nat} {pre : AHeap} {s : Nat → Int32} {A : Nat → List Int32} {L : Nat → Int64} {B : Nat → List Int64} {post : AHeap} {v : Int32} : (put b pre s A L B post).set b (.object "MacroAssembler", (objv b s L).set 63 (.int v)) = put b pre (ou s 31 v) A L B post := pad_set0 _ _ _ _
theorem put_s33 {b : Nat} {pre : AHeap} {s : Nat → Int32} {A : Nat → List Int32} {L : Nat → Int64} {B : Nat → List Int64} {post : AHeap} {v : Int32} : (put b pre s A L B post).set b (.object "MacroAssembler", (objv b s L).set 64 (.int v)) = put b pre (ou s 33 v) A L B post := pad_set0 _ _ _ _
theorem put_s41 {b : Nat} {pre : AHeap} {s : Nat → Int32} {A : Nat → List Int32} {L : Nat → Int64} {B : Nat → List Int64} {post : AHeap} {v : Int32} : (put b pre s A L B post).set b (.object "MacroAssembler", (objv b s L).set 65 (.int v)) = put b pre (ou s 41 v) A L B post := pad_set0 _ _ _ _
theorem put_s42 {b : Nat} {pre : AHeap} {s : Nat → Int32} {A : Nat → List Int32} {L : Nat → Int64} {B : Nat → List Int64} {post : AHeap} {v : Int32} : (put b pre s A L B post).set b (.object "MacroAssembler", (objv b s L).set 66 (.int v)) = put b pre (ou s 42 v) A L B post := pad_set0 _ _ _ _
theorem put_s40 {b : Nat} {pre : AHeap} {s : Nat → Int32} {A : Nat → List Int32} {L : Nat → Int64} {B : Nat → List Int64} {post : AHeap} {v : Int32} : (put b pre s A L B post).set b (.object "MacroAssembler", (objv b s L).set 67 (.int v)) = put b pre (ou s 40 v) A L B post := pad_set0 _ _ _ _
theorem put_s54 {b : Nat} {pre : AHeap} {s : Nat → Int32} {A : Nat → List Int32} {L : Nat → Int64} {B : Nat → List Int64} {post : AHeap} {v : Int32} : (put b pre s A L B post).set b (.object "MacroAssembler", (objv b s L).set 68 (.int v)) = put b pre (ou s 54 v) A L B post := pad_set0 _ _ _ _
theorem put_s37 {b : Nat} {pre : AHeap} {s : Nat → Int32} {A : Nat → List Int32} {L : Nat → Int64} {B : Nat → List Int64} {post : AHeap} {v : Int32} : (put b pre s A L B post).set b (.object "MacroAssembler", (objv b s L).set 69 (.int v)) = put b pre (ou s 37 v) A L B post := pad_set0 _ _ _ _
theorem put_s38 {b : Nat} {pre : AHeap} {s : Nat → Int32} {A : Nat → List Int32} {L : Nat → Int64} {B : Nat → List Int64} {post : AHeap} {v : Int32} : (put b pre s A L B post).set b (.object "MacroAssembler", (objv b s L).set 70 (.int v)) = put b pre (ou s 38 v) A L B post := pad_set0 _ _ _ _
theorem put_s39 {b : Nat} {pre : AHeap} {s : Nat → Int32} {A : Nat → List Int32} {L : Nat → Int64} {B : Nat → List Int64} {post : AHeap} {v : Int32} : (put b pre s A L B post).set b (.object "MacroAssembler", (objv b s L).set 71 (.int v)) = put b pre (ou s 39 v) A L B post := pad_set0 _ _ _ _
theorem put_s32 {b : Nat} {pre : AHeap} {s : Nat → Int32} {A : Nat → List Int32} {L : Nat → Int64} {B : Nat → List Int64} {post : AHeap} {v : Int32} : (put b pre s A L B post).set b (.object "MacroAssembler", (objv b s L).set 72 (.int v)) = put b pre (ou s 32 v) A L B post := pad_set0 _ _ _ _
theorem put_s44 {b : Nat} {pre : AHeap} {s : Nat → Int32} {A : Nat → List Int32} {L : Nat → Int64} {B : Nat → List Int64} {post : AHeap} {v : Int32} : (put b pre s A L B post).set b (.object "MacroAssembler", (objv b s L).set 73 (.int v)) = put b pre (ou s 44 v) A L B post := pad_set0 _ _ _ _
theorem put_s45 {b : Nat} {pre : AHeap} {s : Nat → Int32} {A : Nat → List Int32} {L : Nat → Int64} {B : Nat → List Int64} {post : AHeap} {v : Int32} : (put b pre s A L B post).set b (.object "MacroAssembler", (objv b s L).set 74 (.int v)) = put b pre (ou s 45 v) A L B post := pad_set0 _ _ _ _
theorem put_s43 {b : Nat} {pre : AHeap} {s : Nat → Int32} {A : Nat → List Int32} {L : Nat → Int64} {B : Nat → List Int64} {post : AHeap} {v : Int32} : (put b pre s A L B post).set b (.object "MacroAssembler", (objv b s L).set 75 (.int v)) = put b pre (ou s 43 v) A L B post := pad_set0 _ _ _ _
theorem put_s23 {b : Nat} {pre : AHeap} {s : Nat → Int32} {A : Nat → List Int32} {L : Nat → Int64} {B : Nat → List Int64} {post : AHeap} {v : Int32} : (put b pre s A L B post).set b (.object "MacroAssembler", (objv b s L).set 76 (.int v)) = put b pre (ou s 23 v) A L B post := pad_set0 _ _ _ _
theorem put_s34 {b : Nat} {pre : AHeap} {s : Nat → Int32} {A : Nat → List Int32} {L : Nat → Int64} {B : Nat → List Int64} {post : AHeap} {v : Int32} : (put b pre s A L B post).set b (.object "MacroAssembler", (objv b s L).set 77 (.int v)) = put b pre (ou s 34 v) A L B post := pad_set0 _ _ _ _
theorem put_s35 {b : Nat} {pre : AHeap} {s : Nat → Int32} {A : Nat → List Int32} {L : Nat → Int64} {B : Nat → List Int64} {post : AHeap} {v : Int32} : (put b pre s A L B post).set b (.object "MacroAssembler", (objv b s L).set 78 (.int v)) = put b pre (ou s 35 v) A L B post := pad_set0 _ _ _ _
theorem put_s36 {b : Nat} {pre : AHeap} {s : Nat → Int32} {A : Nat → List Int32} {L : Nat → Int64} {B : Nat → List Int64} {post : AHeap} {v : Int32} : (put b pre s A L B post).set b (.object "MacroAssembler", (objv b s L).set 79 (.int v)) = put b pre (ou s 36 v) A L B post := pad_set0 _ _ _ _
theorem put_s46 {b : Nat} {pre : AHeap} {s : Nat → Int32} {A : Nat → List Int32} {L : Nat → Int64} {B : Nat → List Int64} {post : AHeap} {v : Int32} : (put b pre s A L B post).set b (.object "MacroAssembler", (objv b s L).set 80 (.int v)) = put b pre (ou s 46 v) A L B post := pad_set0 _ _ _ _
theorem put_s47 {b : Nat} {pre : AHeap} {s : Nat → Int32} {A : Nat → List Int32} {L : Nat → Int64} {B : Nat → List Int64} {post : AHeap} {v : Int32} : (put b pre s A L B post).set b (.object "MacroAssembler", (objv b s L).set 81 (.int v)) = put b pre (ou s 47 v) A L B post := pad_set0 _ _ _ _
theorem put_s48 {b : Nat} {pre : AHeap} {s : Nat → Int32} {A : Nat → List Int32} {L : Nat → Int64} {B : Nat → List Int64} {post : AHeap} {v : Int32} : (put b pre s A L B post).set b (.object "MacroAssembler", (objv b s L).set 82 (.int v)) = put b pre (ou s 48 v) A L B post := pad_set0 _ _ _ _
theorem put_s49 {b : Nat} {pre : AHeap} {s : Nat → Int32} {A : Nat → List Int32} {L : Nat → Int64} {B : Nat → List Int64} {post : AHeap} {v : Int32} : (put b pre s A L B post).set b (.object "MacroAssembler", (objv b s L).set 83 (.int v)) = put b pre (ou s 49 v) A L B post := pad_set0 _ _ _ _
theorem put_j0 {b : Nat} {pre : AHeap} {s : Nat → Int32} {A : Nat → List Int32} {L : Nat → Int64} {B : Nat → List Int64} {post : AHeap} {v : Int64} : (put b pre s A L B post).set b (.object "MacroAssembler", (objv b s L).set 84 (.long v)) = put b pre s A (ou L 0 v) B post := pad_set0 _ _ _ _
theorem put_len {b : Nat} {pre : AHeap} {s : Nat → Int32} {A : Nat → List Int32} {L : Nat → Int64} {B : Nat → List Int64} {post : AHeap} : (put b pre s A L B post).length = b + 35 + post.length := by rw [put, List.length_append, pad_len]; simp only [List.length_cons]; omega
theorem inst0 : rInst tables_1 "MacroAssembler" = some 90 := by decide +kernel
theorem put_tot {b : Nat} {pre : AHeap} {s : Nat → Int32} {A : Nat → List Int32} {L : Nat → Int64} {B : Nat → List Int64} {post : AHeap} : tot tables_1 (put b pre s A L B post) = tot tables_1 (pad b pre) + (90 + ((A 0).length + ((A 1).length + ((A 2).length + ((A 3).length + ((B 0).length + ((A 4).length + ((A 5).length + ((A 6).length + ((B 1).length + ((A 7).length + ((A 8).length + ((A 9).length + ((A 10).length + ((A 11).length + ((A 12).length + ((A 13).length + ((A 14).length + ((A 15).length + ((A 16).length + ((A 17).length + ((A 18).length + ((A 19).length + ((A 20).length + ((A 21).length + ((B 2).length + ((B 3).length + ((A 22).length + ((A 23).length + ((A 24).length + ((A 25).length + ((A 26).length + ((A 27).length + ((B 4).length + ((A 28).length + tot tables_1 post))))))))))))))))))))))))))))))))))) := by rw [put, tot_append]; simp only [tot_cons, cost, List.length_map, inst0, Option.getD_some]
def D0 : List Value := [.int 0, .int 0, .int 0, .int 0, .int 0, .int 0, .int 0, .int 0, .int 0, .int 0, .int 0, .int 0, .int 0, .int 0, .int 0, .int 0, .int 0, .int 0, .int 0, .int 0, .int 0, .null, .null, .null, .null, .null, .null, .null, .null, .null, .null, .null, .null, .null, .null, .null, .null, .null, .null, .null, .null, .null, .null, .null, .null, .null, .null, .null, .null, .null, .null, .null, .null, .null, .null, .int 0, .int 0, .int 0, .int 0, .int 0, .int 0, .int 0, .int 0, .int 0, .int 0, .int 0, .int 0, .int 0, .int 0, .int 0, .int 0, .int 0, .int 0, .int 0, .int 0, .int 0, .int 0, .int 0, .int 0, .int 0, .int 0, .int 0, .int 0, .int 0, .long 0]
theorem lay0 : (olay tables_1 "MacroAssembler").map dflt = D0 := by decide +kernel
abbrev y0 : MethodName := ⟨"MacroAssembler", "<init>", "(I)V"⟩
abbrev kb0 : ByteArray := prog_1_method_1_code
def M0 (pc : Nat) (ls : List Slot) (st : List Value) (H : AHeap) (Q : Option Value → AHeap → Prop) : Prop := W tables_1 dn 0 y0 prog_1_method_1_code none pc ls st H Q
abbrev y1 : MethodName := ⟨"MacroAssembler", "feedLong", "(J)I"⟩
abbrev kb1 : ByteArray := prog_1_method_3_code
def M1 (pc : Nat) (ls : List Slot) (st : List Value) (H : AHeap) (Q : Option Value → AHeap → Prop) : Prop := W tables_1 dn 0 y1 prog_1_method_3_code (some .int) pc ls st H Q
abbrev y2 : MethodName := ⟨"MacroAssembler", "byteOf", "(JI)I"⟩
abbrev kb2 : ByteArray := prog_1_method_19_code
def M2 (pc : Nat) (ls : List Slot) (st : List Value) (H : AHeap) (Q : Option Value → AHeap → Prop) : Prop := W tables_1 dn 0 y2 prog_1_method_19_code (some .int) pc ls st H Q
abbrev y3 : MethodName := ⟨"MacroAssembler", "validChar", "(I)Z"⟩
abbrev kb3 : ByteArray := prog_1_method_18_code
def M3 (pc : Nat) (ls : List Slot) (st : List Value) (H : AHeap) (Q : Option Value → AHeap → Prop) : Prop := W tables_1 dn 0 y3 prog_1_method_18_code (some .boolean) pc ls st H Q
abbrev y4 : MethodName := ⟨"MacroAssembler", "resetResult", "()V"⟩
abbrev kb4 : ByteArray := prog_1_method_20_code
def M4 (pc : Nat) (ls : List Slot) (st : List Value) (H : AHeap) (Q : Option Value → AHeap → Prop) : Prop := W tables_1 dn 0 y4 prog_1_method_20_code none pc ls st H Q
abbrev y5 : MethodName := ⟨"MacroAssembler", "assemble", "()I"⟩
abbrev kb5 : ByteArray := prog_1_method_5_code
def M5 (pc : Nat) (ls : List Slot) (st : List Value) (H : AHeap) (Q : Option Value → AHeap → Prop) : Prop := W tables_1 dn 0 y5 prog_1_method_5_code (some .int) pc ls st H Q
abbrev y6 : MethodName := ⟨"MacroAssembler", "startRun", "()V"⟩
abbrev kb6 : ByteArray := prog_1_method_38_code
def M6 (pc : Nat) (ls : List Slot) (st : List Value) (H : AHeap) (Q : Option Value → AHeap → Prop) : Prop := W tables_1 dn 0 y6 prog_1_method_38_code none pc ls st H Q
abbrev y7 : MethodName := ⟨"MacroAssembler", "splitLines", "()V"⟩
abbrev kb7 : ByteArray := prog_1_method_39_code
def M7 (pc : Nat) (ls : List Slot) (st : List Value) (H : AHeap) (Q : Option Value → AHeap → Prop) : Prop := W tables_1 dn 0 y7 prog_1_method_39_code none pc ls st H Q
abbrev y8 : MethodName := ⟨"MacroAssembler", "setInput", "(II)V"⟩
abbrev kb8 : ByteArray := prog_1_method_40_code
def M8 (pc : Nat) (ls : List Slot) (st : List Value) (H : AHeap) (Q : Option Value → AHeap → Prop) : Prop := W tables_1 dn 0 y8 prog_1_method_40_code none pc ls st H Q
abbrev y9 : MethodName := ⟨"MacroAssembler", "step", "()V"⟩
abbrev kb9 : ByteArray := prog_1_method_41_code
def M9 (pc : Nat) (ls : List Slot) (st : List Value) (H : AHeap) (Q : Option Value → AHeap → Prop) : Prop := W tables_1 dn 0 y9 prog_1_method_41_code none pc ls st H Q
abbrev y10 : MethodName := ⟨"MacroAssembler", "copyLine", "(I)V"⟩
abbrev kb10 : ByteArray := prog_1_method_45_code
def M10 (pc : Nat) (ls : List Slot) (st : List Value) (H : AHeap) (Q : Option Value → AHeap → Prop) : Prop := W tables_1 dn 0 y10 prog_1_method_45_code none pc ls st H Q
abbrev y11 : MethodName := ⟨"MacroAssembler", "normalLine", "()V"⟩
abbrev kb11 : ByteArray := prog_1_method_53_code
def M11 (pc : Nat) (ls : List Slot) (st : List Value) (H : AHeap) (Q : Option Value → AHeap → Prop) : Prop := W tables_1 dn 0 y11 prog_1_method_53_code none pc ls st H Q
abbrev y12 : MethodName := ⟨"MacroAssembler", "findLabel", "()V"⟩
abbrev kb12 : ByteArray := prog_1_method_54_code
def M12 (pc : Nat) (ls : List Slot) (st : List Value) (H : AHeap) (Q : Option Value → AHeap → Prop) : Prop := W tables_1 dn 0 y12 prog_1_method_54_code none pc ls st H Q
abbrev y13 : MethodName := ⟨"MacroAssembler", "skipSpaces", "(I)I"⟩
abbrev kb13 : ByteArray := prog_1_method_25_code
def M13 (pc : Nat) (ls : List Slot) (st : List Value) (H : AHeap) (Q : Option Value → AHeap → Prop) : Prop := W tables_1 dn 0 y13 prog_1_method_25_code (some .int) pc ls st H Q
abbrev y14 : MethodName := ⟨"MacroAssembler", "identStart", "(I)Z"⟩
abbrev kb14 : ByteArray := prog_1_method_23_code
def M14 (pc : Nat) (ls : List Slot) (st : List Value) (H : AHeap) (Q : Option Value → AHeap → Prop) : Prop := W tables_1 dn 0 y14 prog_1_method_23_code (some .boolean) pc ls st H Q
abbrev y15 : MethodName := ⟨"MacroAssembler", "identEnd", "(I)I"⟩
abbrev kb15 : ByteArray := prog_1_method_26_code
def M15 (pc : Nat) (ls : List Slot) (st : List Value) (H : AHeap) (Q : Option Value → AHeap → Prop) : Prop := W tables_1 dn 0 y15 prog_1_method_26_code (some .int) pc ls st H Q
abbrev y16 : MethodName := ⟨"MacroAssembler", "identChar", "(I)Z"⟩
abbrev kb16 : ByteArray := prog_1_method_24_code
def M16 (pc : Nat) (ls : List Slot) (st : List Value) (H : AHeap) (Q : Option Value → AHeap → Prop) : Prop := W tables_1 dn 0 y16 prog_1_method_24_code (some .boolean) pc ls st H Q
abbrev y17 : MethodName := ⟨"MacroAssembler", "pack", "(II)J"⟩
abbrev kb17 : ByteArray := prog_1_method_27_code
def M17 (pc : Nat) (ls : List Slot) (st : List Value) (H : AHeap) (Q : Option Value → AHeap → Prop) : Prop := W tables_1 dn 0 y17 prog_1_method_27_code (some .long) pc ls st H Q
abbrev y18 : MethodName := ⟨"MacroAssembler", "wordAt", "(I)J"⟩
abbrev kb18 : ByteArray := prog_1_method_28_code
def M18 (pc : Nat) (ls : List Slot) (st : List Value) (H : AHeap) (Q : Option Value → AHeap → Prop) : Prop := W tables_1 dn 0 y18 prog_1_method_28_code (some .long) pc ls st H Q
abbrev y19 : MethodName := ⟨"MacroAssembler", "kwCode", "(I)J"⟩
abbrev kb19 : ByteArray := prog_1_method_33_code
def M19 (pc : Nat) (ls : List Slot) (st : List Value) (H : AHeap) (Q : Option Value → AHeap → Prop) : Prop := W tables_1 dn 0 y19 prog_1_method_33_code (some .long) pc ls st H Q
abbrev y20 : MethodName := ⟨"MacroAssembler", "word", "(IIIII)J"⟩
abbrev kb20 : ByteArray := prog_1_method_32_code
def M20 (pc : Nat) (ls : List Slot) (st : List Value) (H : AHeap) (Q : Option Value → AHeap → Prop) : Prop := W tables_1 dn 0 y20 prog_1_method_32_code (some .long) pc ls st H Q
abbrev y21 : MethodName := ⟨"MacroAssembler", "kwIndex", "(J)I"⟩
abbrev kb21 : ByteArray := prog_1_method_34_code
def M21 (pc : Nat) (ls : List Slot) (st : List Value) (H : AHeap) (Q : Option Value → AHeap → Prop) : Prop := W tables_1 dn 0 y21 prog_1_method_34_code (some .int) pc ls st H Q
abbrev y22 : MethodName := ⟨"MacroAssembler", "statement", "(I)V"⟩
abbrev kb22 : ByteArray := prog_1_method_58_code
def M22 (pc : Nat) (ls : List Slot) (st : List Value) (H : AHeap) (Q : Option Value → AHeap → Prop) : Prop := W tables_1 dn 0 y22 prog_1_method_58_code none pc ls st H Q
abbrev y23 : MethodName := ⟨"MacroAssembler", "tokenize", "(I)V"⟩
abbrev kb23 : ByteArray := prog_1_method_75_code
def M23 (pc : Nat) (ls : List Slot) (st : List Value) (H : AHeap) (Q : Option Value → AHeap → Prop) : Prop := W tables_1 dn 0 y23 prog_1_method_75_code none pc ls st H Q
abbrev y24 : MethodName := ⟨"MacroAssembler", "addTok", "(IIJ)V"⟩
abbrev kb24 : ByteArray := prog_1_method_77_code
def M24 (pc : Nat) (ls : List Slot) (st : List Value) (H : AHeap) (Q : Option Value → AHeap → Prop) : Prop := W tables_1 dn 0 y24 prog_1_method_77_code none pc ls st H Q
abbrev y25 : MethodName := ⟨"MacroAssembler", "formSimple", "(I)V"⟩
abbrev kb25 : ByteArray := prog_1_method_61_code
def M25 (pc : Nat) (ls : List Slot) (st : List Value) (H : AHeap) (Q : Option Value → AHeap → Prop) : Prop := W tables_1 dn 0 y25 prog_1_method_61_code none pc ls st H Q
abbrev y26 : MethodName := ⟨"MacroAssembler", "defineLabel", "()V"⟩
abbrev kb26 : ByteArray := prog_1_method_55_code
def M26 (pc : Nat) (ls : List Slot) (st : List Value) (H : AHeap) (Q : Option Value → AHeap → Prop) : Prop := W tables_1 dn 0 y26 prog_1_method_55_code none pc ls st H Q
abbrev y27 : MethodName := ⟨"MacroAssembler", "emit", "(I)V"⟩
abbrev kb27 : ByteArray := prog_1_method_57_code
def M27 (pc : Nat) (ls : List Slot) (st : List Value) (H : AHeap) (Q : Option Value → AHeap → Prop) : Prop := W tables_1 dn 0 y27 prog_1_method_57_code none pc ls st H Q
abbrev y28 : MethodName := ⟨"MacroAssembler", "exhausted", "()V"⟩
abbrev kb28 : ByteArray := prog_1_method_42_code
def M28 (pc : Nat) (ls : List Slot) (st : List Value) (H : AHeap) (Q : Option Value → AHeap → Prop) : Prop := W tables_1 dn 0 y28 prog_1_method_42_code none pc ls st H Q
abbrev y29 : MethodName := ⟨"MacroAssembler", "finish", "()V"⟩
abbrev kb29 : ByteArray := prog_1_method_82_code
def M29 (pc : Nat) (ls : List Slot) (st : List Value) (H : AHeap) (Q : Option Value → AHeap → Prop) : Prop := W tables_1 dn 0 y29 prog_1_method_82_code none pc ls st H Q
abbrev y30 : MethodName := ⟨"MacroAssembler", "buildListing", "()V"⟩
abbrev kb30 : ByteArray := prog_1_method_87_code
def M30 (pc : Nat) (ls : List Slot) (st : List Value) (H : AHeap) (Q : Option Value → AHeap → Prop) : Prop := W tables_1 dn 0 y30 prog_1_method_87_code none pc ls st H Q
abbrev y31 : MethodName := ⟨"MacroAssembler", "listOne", "(I)I"⟩
abbrev kb31 : ByteArray := prog_1_method_88_code
def M31 (pc : Nat) (ls : List Slot) (st : List Value) (H : AHeap) (Q : Option Value → AHeap → Prop) : Prop := W tables_1 dn 0 y31 prog_1_method_88_code (some .int) pc ls st H Q
abbrev y32 : MethodName := ⟨"MacroAssembler", "putKw", "(I)V"⟩
abbrev kb32 : ByteArray := prog_1_method_85_code
def M32 (pc : Nat) (ls : List Slot) (st : List Value) (H : AHeap) (Q : Option Value → AHeap → Prop) : Prop := W tables_1 dn 0 y32 prog_1_method_85_code none pc ls st H Q
abbrev y33 : MethodName := ⟨"MacroAssembler", "putName", "(J)V"⟩
abbrev kb33 : ByteArray := prog_1_method_84_code
def M33 (pc : Nat) (ls : List Slot) (st : List Value) (H : AHeap) (Q : Option Value → AHeap → Prop) : Prop := W tables_1 dn 0 y33 prog_1_method_84_code none pc ls st H Q
abbrev y34 : MethodName := ⟨"MacroAssembler", "nameLen", "(J)I"⟩
abbrev kb34 : ByteArray := prog_1_method_30_code
def M34 (pc : Nat) (ls : List Slot) (st : List Value) (H : AHeap) (Q : Option Value → AHeap → Prop) : Prop := W tables_1 dn 0 y34 prog_1_method_30_code (some .int) pc ls st H Q
abbrev y35 : MethodName := ⟨"MacroAssembler", "nameChar", "(JII)I"⟩
abbrev kb35 : ByteArray := prog_1_method_31_code
def M35 (pc : Nat) (ls : List Slot) (st : List Value) (H : AHeap) (Q : Option Value → AHeap → Prop) : Prop := W tables_1 dn 0 y35 prog_1_method_31_code (some .int) pc ls st H Q
abbrev y36 : MethodName := ⟨"MacroAssembler", "lstPut", "(I)V"⟩
abbrev kb36 : ByteArray := prog_1_method_83_code
def M36 (pc : Nat) (ls : List Slot) (st : List Value) (H : AHeap) (Q : Option Value → AHeap → Prop) : Prop := W tables_1 dn 0 y36 prog_1_method_83_code none pc ls st H Q
abbrev y37 : MethodName := ⟨"MacroAssembler", "sourceLength", "()I"⟩
abbrev kb37 : ByteArray := prog_1_method_8_code
def M37 (pc : Nat) (ls : List Slot) (st : List Value) (H : AHeap) (Q : Option Value → AHeap → Prop) : Prop := W tables_1 dn 0 y37 prog_1_method_8_code (some .int) pc ls st H Q
abbrev y38 : MethodName := ⟨"MacroAssembler", "status", "()I"⟩
abbrev kb38 : ByteArray := prog_1_method_6_code
def M38 (pc : Nat) (ls : List Slot) (st : List Value) (H : AHeap) (Q : Option Value → AHeap → Prop) : Prop := W tables_1 dn 0 y38 prog_1_method_6_code (some .int) pc ls st H Q
abbrev y39 : MethodName := ⟨"MacroAssembler", "imageLength", "()I"⟩
abbrev kb39 : ByteArray := prog_1_method_9_code
def M39 (pc : Nat) (ls : List Slot) (st : List Value) (H : AHeap) (Q : Option Value → AHeap → Prop) : Prop := W tables_1 dn 0 y39 prog_1_method_9_code (some .int) pc ls st H Q
abbrev y40 : MethodName := ⟨"MacroAssembler", "imageByte", "(I)I"⟩
abbrev kb40 : ByteArray := prog_1_method_10_code
def M40 (pc : Nat) (ls : List Slot) (st : List Value) (H : AHeap) (Q : Option Value → AHeap → Prop) : Prop := W tables_1 dn 0 y40 prog_1_method_10_code (some .int) pc ls st H Q
abbrev y41 : MethodName := ⟨"MacroAssemblerL2", "okc", "(I)Z"⟩
abbrev kb41 : ByteArray := method_2_code
def M41 (pc : Nat) (ls : List Slot) (st : List Value) (H : AHeap) (Q : Option Value → AHeap → Prop) : Prop := W tables_1 dn 0 y41 method_2_code (some .boolean) pc ls st H Q
abbrev y42 : MethodName := ⟨"MacroAssemblerL2", "law", "(IJ)Z"⟩
abbrev kb42 : ByteArray := code
def M42 (pc : Nat) (ls : List Slot) (st : List Value) (H : AHeap) (Q : Option Value → AHeap → Prop) : Prop := W tables_1 dn 0 y42 code (some .boolean) pc ls st H Q
theorem dn_0 : dnOf dn y0 = some (1, 12) := by decide +kernel
theorem rc_0 : rCode tables_1 y0 = some (prog_1_method_1_code, 3, none) := rCode_of (i := 5) rfl (by decide +kernel)
theorem dn_1 : dnOf dn y1 = some (1, 17) := by decide +kernel
theorem rc_1 : rCode tables_1 y1 = some (prog_1_method_3_code, 6, some .int) := rCode_of (i := 130) rfl (by decide +kernel)
theorem dn_2 : dnOf dn y2 = some (0, 0) := by decide +kernel
theorem rc_2 : rCode tables_1 y2 = some (prog_1_method_19_code, 4, some .int) := rCode_of (i := 134) rfl (by decide +kernel)
theorem dn_3 : dnOf dn y3 = some (0, 0) := by decide +kernel
theorem rc_3 : rCode tables_1 y3 = some (prog_1_method_18_code, 2, some .boolean) := rCode_of (i := 139) rfl (by decide +kernel)
theorem dn_4 : dnOf dn y4 = some (0, 0) := by decide +kernel
theorem rc_4 : rCode tables_1 y4 = some (prog_1_method_20_code, 1, none) := rCode_of (i := 145) rfl (by decide +kernel)
theorem dn_5 : dnOf dn y5 = some (7, 107) := by decide +kernel
theorem rc_5 : rCode tables_1 y5 = some (prog_1_method_5_code, 2, some .int) := rCode_of (i := 162) rfl (by decide +kernel)
theorem dn_6 : dnOf dn y6 = some (1, 14) := by decide +kernel
theorem rc_6 : rCode tables_1 y6 = some (prog_1_method_38_code, 1, none) := rCode_of (i := 166) rfl (by decide +kernel)
theorem dn_7 : dnOf dn y7 = some (0, 0) := by decide +kernel
theorem rc_7 : rCode tables_1 y7 = some (prog_1_method_39_code, 3, none) := rCode_of (i := 196) rfl (by decide +kernel)
theorem dn_8 : dnOf dn y8 = some (0, 0) := by decide +kernel
theorem rc_8 : rCode tables_1 y8 = some (prog_1_method_40_code, 3, none) := rCode_of (i := 202) rfl (by decide +kernel)
theorem dn_9 : dnOf dn y9 = some (6, 94) := by decide +kernel
theorem rc_9 : rCode tables_1 y9 = some (prog_1_method_41_code, 2, none) := rCode_of (i := 212) rfl (by decide +kernel)
theorem dn_10 : dnOf dn y10 = some (0, 0) := by decide +kernel
theorem rc_10 : rCode tables_1 y10 = some (prog_1_method_45_code, 3, none) := rCode_of (i := 216) rfl (by decide +kernel)
theorem dn_11 : dnOf dn y11 = some (5, 73) := by decide +kernel
theorem rc_11 : rCode tables_1 y11 = some (prog_1_method_53_code, 10, none) := rCode_of (i := 222) rfl (by decide +kernel)
theorem dn_12 : dnOf dn y12 = some (3, 41) := by decide +kernel
theorem rc_12 : rCode tables_1 y12 = some (prog_1_method_54_code, 4, none) := rCode_of (i := 226) rfl (by decide +kernel)
theorem dn_13 : dnOf dn y13 = some (0, 0) := by decide +kernel
theorem rc_13 : rCode tables_1 y13 = some (prog_1_method_25_code, 4, some .int) := rCode_of (i := 234) rfl (by decide +kernel)
theorem dn_14 : dnOf dn y14 = some (0, 0) := by decide +kernel
theorem rc_14 : rCode tables_1 y14 = some (prog_1_method_23_code, 2, some .boolean) := rCode_of (i := 238) rfl (by decide +kernel)
theorem dn_15 : dnOf dn y15 = some (2, 26) := by decide +kernel
theorem rc_15 : rCode tables_1 y15 = some (prog_1_method_26_code, 4, some .int) := rCode_of (i := 242) rfl (by decide +kernel)
theorem dn_16 : dnOf dn y16 = some (1, 13) := by decide +kernel
theorem rc_16 : rCode tables_1 y16 = some (prog_1_method_24_code, 2, some .boolean) := rCode_of (i := 246) rfl (by decide +kernel)
theorem dn_17 : dnOf dn y17 = some (0, 0) := by decide +kernel
theorem rc_17 : rCode tables_1 y17 = some (prog_1_method_27_code, 6, some .long) := rCode_of (i := 250) rfl (by decide +kernel)
theorem dn_18 : dnOf dn y18 = some (3, 41) := by decide +kernel
theorem rc_18 : rCode tables_1 y18 = some (prog_1_method_28_code, 3, some .long) := rCode_of (i := 255) rfl (by decide +kernel)
theorem dn_19 : dnOf dn y19 = some (1, 19) := by decide +kernel
theorem rc_19 : rCode tables_1 y19 = some (prog_1_method_33_code, 2, some .long) := rCode_of (i := 260) rfl (by decide +kernel)
theorem dn_20 : dnOf dn y20 = some (0, 0) := by decide +kernel
theorem rc_20 : rCode tables_1 y20 = some (prog_1_method_32_code, 8, some .long) := rCode_of (i := 264) rfl (by decide +kernel)
theorem dn_21 : dnOf dn y21 = some (2, 32) := by decide +kernel
theorem rc_21 : rCode tables_1 y21 = some (prog_1_method_34_code, 4, some .int) := rCode_of (i := 268) rfl (by decide +kernel)
theorem dn_22 : dnOf dn y22 = some (4, 60) := by decide +kernel
theorem rc_22 : rCode tables_1 y22 = some (prog_1_method_58_code, 2, none) := rCode_of (i := 272) rfl (by decide +kernel)
theorem dn_23 : dnOf dn y23 = some (3, 41) := by decide +kernel
theorem rc_23 : rCode tables_1 y23 = some (prog_1_method_75_code, 8, none) := rCode_of (i := 276) rfl (by decide +kernel)
theorem dn_24 : dnOf dn y24 = some (0, 0) := by decide +kernel
theorem rc_24 : rCode tables_1 y24 = some (prog_1_method_77_code, 5, none) := rCode_of (i := 282) rfl (by decide +kernel)
theorem dn_25 : dnOf dn y25 = some (1, 13) := by decide +kernel
theorem rc_25 : rCode tables_1 y25 = some (prog_1_method_61_code, 2, none) := rCode_of (i := 286) rfl (by decide +kernel)
theorem dn_26 : dnOf dn y26 = some (0, 0) := by decide +kernel
theorem rc_26 : rCode tables_1 y26 = some (prog_1_method_55_code, 1, none) := rCode_of (i := 290) rfl (by decide +kernel)
theorem dn_27 : dnOf dn y27 = some (0, 0) := by decide +kernel
theorem rc_27 : rCode tables_1 y27 = some (prog_1_method_57_code, 2, none) := rCode_of (i := 294) rfl (by decide +kernel)
theorem dn_28 : dnOf dn y28 = some (0, 0) := by decide +kernel
theorem rc_28 : rCode tables_1 y28 = some (prog_1_method_42_code, 1, none) := rCode_of (i := 298) rfl (by decide +kernel)
theorem dn_29 : dnOf dn y29 = some (0, 0) := by decide +kernel
theorem rc_29 : rCode tables_1 y29 = some (prog_1_method_82_code, 5, none) := rCode_of (i := 302) rfl (by decide +kernel)
theorem dn_30 : dnOf dn y30 = some (4, 64) := by decide +kernel
theorem rc_30 : rCode tables_1 y30 = some (prog_1_method_87_code, 3, none) := rCode_of (i := 306) rfl (by decide +kernel)
theorem dn_31 : dnOf dn y31 = some (3, 50) := by decide +kernel
theorem rc_31 : rCode tables_1 y31 = some (prog_1_method_88_code, 3, some .int) := rCode_of (i := 310) rfl (by decide +kernel)
theorem dn_32 : dnOf dn y32 = some (2, 35) := by decide +kernel
theorem rc_32 : rCode tables_1 y32 = some (prog_1_method_85_code, 4, none) := rCode_of (i := 314) rfl (by decide +kernel)
theorem dn_33 : dnOf dn y33 = some (1, 18) := by decide +kernel
theorem rc_33 : rCode tables_1 y33 = some (prog_1_method_84_code, 6, none) := rCode_of (i := 318) rfl (by decide +kernel)
theorem dn_34 : dnOf dn y34 = some (0, 0) := by decide +kernel
theorem rc_34 : rCode tables_1 y34 = some (prog_1_method_30_code, 7, some .int) := rCode_of (i := 322) rfl (by decide +kernel)
theorem dn_35 : dnOf dn y35 = some (0, 0) := by decide +kernel
theorem rc_35 : rCode tables_1 y35 = some (prog_1_method_31_code, 5, some .int) := rCode_of (i := 326) rfl (by decide +kernel)
theorem dn_36 : dnOf dn y36 = some (0, 0) := by decide +kernel
theorem rc_36 : rCode tables_1 y36 = some (prog_1_method_83_code, 2, none) := rCode_of (i := 331) rfl (by decide +kernel)
theorem dn_37 : dnOf dn y37 = some (0, 0) := by decide +kernel
theorem rc_37 : rCode tables_1 y37 = some (prog_1_method_8_code, 1, some .int) := rCode_of (i := 341) rfl (by decide +kernel)
theorem dn_38 : dnOf dn y38 = some (0, 0) := by decide +kernel
theorem rc_38 : rCode tables_1 y38 = some (prog_1_method_6_code, 1, some .int) := rCode_of (i := 346) rfl (by decide +kernel)
theorem dn_39 : dnOf dn y39 = some (0, 0) := by decide +kernel
theorem rc_39 : rCode tables_1 y39 = some (prog_1_method_9_code, 1, some .int) := rCode_of (i := 351) rfl (by decide +kernel)
theorem dn_40 : dnOf dn y40 = some (1, 13) := by decide +kernel
theorem rc_40 : rCode tables_1 y40 = some (prog_1_method_10_code, 2, some .int) := rCode_of (i := 356) rfl (by decide +kernel)
theorem dn_41 : dnOf dn y41 = some (0, 0) := by decide +kernel
theorem rc_41 : rCode tables_1 y41 = some (method_2_code, 1, some .boolean) := rCode_of (i := 336) rfl (by decide +kernel)
theorem dn_42 : dnOf dn y42 = some (8, 120) := by decide +kernel
theorem gf_7 : gfR tables_1 "MacroAssembler" 7 = some ("MacroAssembler", 0) := by decide +kernel
theorem gf_13 : gfR tables_1 "MacroAssembler" 13 = some ("MacroAssembler", 1) := by decide +kernel
theorem gf_16 : gfR tables_1 "MacroAssembler" 16 = some ("MacroAssembler", 2) := by decide +kernel
theorem gf_19 : gfR tables_1 "MacroAssembler" 19 = some ("MacroAssembler", 3) := by decide +kernel
theorem gf_22 : gfR tables_1 "MacroAssembler" 22 = some ("MacroAssembler", 4) := by decide +kernel
theorem gf_25 : gfR tables_1 "MacroAssembler" 25 = some ("MacroAssembler", 5) := by decide +kernel
theorem gf_28 : gfR tables_1 "MacroAssembler" 28 = some ("MacroAssembler", 6) := by decide +kernel
theorem gf_31 : gfR tables_1 "MacroAssembler" 31 = some ("MacroAssembler", 7) := by decide +kernel
theorem gf_34 : gfR tables_1 "MacroAssembler" 34 = some ("MacroAssembler", 8) := by decide +kernel
theorem gf_37 : gfR tables_1 "MacroAssembler" 37 = some ("MacroAssembler", 9) := by decide +kernel
theorem gf_40 : gfR tables_1 "MacroAssembler" 40 = some ("MacroAssembler", 10) := by decide +kernel
theorem gf_43 : gfR tables_1 "MacroAssembler" 43 = some ("MacroAssembler", 11) := by decide +kernel
theorem gf_46 : gfR tables_1 "MacroAssembler" 46 = some ("MacroAssembler", 12) := by decide +kernel
theorem gf_49 : gfR tables_1 "MacroAssembler" 49 = some ("MacroAssembler", 13) := by decide +kernel
theorem gf_52 : gfR tables_1 "MacroAssembler" 52 = some ("MacroAssembler", 14) := by decide +kernel
theorem gf_55 : gfR tables_1 "MacroAssembler" 55 = some ("MacroAssembler", 15) := by decide +kernel
theorem gf_58 : gfR tables_1 "MacroAssembler" 58 = some ("MacroAssembler", 16) := by decide +kernel
theorem gf_61 : gfR tables_1 "MacroAssembler" 61 = some ("MacroAssembler", 17) := by decide +kernel
theorem gf_64 : gfR tables_1 "MacroAssembler" 64 = some ("MacroAssembler", 18) := by decide +kernel
theorem gf_67 : gfR tables_1 "MacroAssembler" 67 = some ("MacroAssembler", 19) := by decide +kernel
theorem gf_70 : gfR tables_1 "MacroAssembler" 70 = some ("MacroAssembler", 20) := by decide +kernel
theorem gf_73 : gfR tables_1 "MacroAssembler" 73 = some ("MacroAssembler", 21) := by decide +kernel
theorem gf_77 : gfR tables_1 "MacroAssembler" 77 = some ("MacroAssembler", 22) := by decide +kernel
theorem gf_81 : gfR tables_1 "MacroAssembler" 81 = some ("MacroAssembler", 23) := by decide +kernel
theorem gf_84 : gfR tables_1 "MacroAssembler" 84 = some ("MacroAssembler", 24) := by decide +kernel
theorem gf_87 : gfR tables_1 "MacroAssembler" 87 = some ("MacroAssembler", 25) := by decide +kernel
theorem gf_91 : gfR tables_1 "MacroAssembler" 91 = some ("MacroAssembler", 26) := by decide +kernel
theorem gf_94 : gfR tables_1 "MacroAssembler" 94 = some ("MacroAssembler", 27) := by decide +kernel
theorem gf_97 : gfR tables_1 "MacroAssembler" 97 = some ("MacroAssembler", 28) := by decide +kernel
theorem gf_100 : gfR tables_1 "MacroAssembler" 100 = some ("MacroAssembler", 29) := by decide +kernel
theorem gf_103 : gfR tables_1 "MacroAssembler" 103 = some ("MacroAssembler", 30) := by decide +kernel
theorem gf_106 : gfR tables_1 "MacroAssembler" 106 = some ("MacroAssembler", 31) := by decide +kernel
theorem gf_109 : gfR tables_1 "MacroAssembler" 109 = some ("MacroAssembler", 32) := by decide +kernel
theorem gf_112 : gfR tables_1 "MacroAssembler" 112 = some ("MacroAssembler", 33) := by decide +kernel
theorem gf_116 : gfR tables_1 "MacroAssembler" 116 = some ("MacroAssembler", 34) := by decide +kernel
theorem gf_119 : gfR tables_1 "MacroAssembler" 119 = some ("MacroAssembler", 35) := by decide +kernel
theorem gf_122 : gfR tables_1 "MacroAssembler" 122 = some ("MacroAssembler", 36) := by decide +kernel
theorem gf_125 : gfR tables_1 "MacroAssembler" 125 = some ("MacroAssembler", 37) := by decide +kernel
theorem gf_128 : gfR tables_1 "MacroAssembler" 128 = some ("MacroAssembler", 38) := by decide +kernel
theorem gf_131 : gfR tables_1 "MacroAssembler" 131 = some ("MacroAssembler", 39) := by decide +kernel
theorem gf_134 : gfR tables_1 "MacroAssembler" 134 = some ("MacroAssembler", 40) := by decide +kernel
theorem gf_137 : gfR tables_1 "MacroAssembler" 137 = some ("MacroAssembler", 41) := by decide +kernel
theorem gf_140 : gfR tables_1 "MacroAssembler" 140 = some ("MacroAssembler", 42) := by decide +kernel
theorem gf_143 : gfR tables_1 "MacroAssembler" 143 = some ("MacroAssembler", 43) := by decide +kernel
theorem gf_146 : gfR tables_1 "MacroAssembler" 146 = some ("MacroAssembler", 44) := by decide +kernel
theorem gf_149 : gfR tables_1 "MacroAssembler" 149 = some ("MacroAssembler", 45) := by decide +kernel
theorem gf_152 : gfR tables_1 "MacroAssembler" 152 = some ("MacroAssembler", 46) := by decide +kernel
theorem gf_155 : gfR tables_1 "MacroAssembler" 155 = some ("MacroAssembler", 47) := by decide +kernel
theorem gf_158 : gfR tables_1 "MacroAssembler" 158 = some ("MacroAssembler", 48) := by decide +kernel
theorem gf_161 : gfR tables_1 "MacroAssembler" 161 = some ("MacroAssembler", 49) := by decide +kernel
theorem gf_164 : gfR tables_1 "MacroAssembler" 164 = some ("MacroAssembler", 50) := by decide +kernel
theorem gf_167 : gfR tables_1 "MacroAssembler" 167 = some ("MacroAssembler", 51) := by decide +kernel
theorem gf_170 : gfR tables_1 "MacroAssembler" 170 = some ("MacroAssembler", 52) := by decide +kernel
theorem gf_173 : gfR tables_1 "MacroAssembler" 173 = some ("MacroAssembler", 53) := by decide +kernel
theorem gf_176 : gfR tables_1 "MacroAssembler" 176 = some ("MacroAssembler", 54) := by decide +kernel
theorem gf_179 : gfR tables_1 "MacroAssembler" 179 = some ("MacroAssembler", 55) := by decide +kernel
theorem gf_186 : gfR tables_1 "MacroAssembler" 186 = some ("MacroAssembler", 56) := by decide +kernel
theorem gf_199 : gfR tables_1 "MacroAssembler" 199 = some ("MacroAssembler", 73) := by decide +kernel
theorem gf_203 : gfR tables_1 "MacroAssembler" 203 = some ("MacroAssembler", 74) := by decide +kernel
theorem gf_209 : gfR tables_1 "MacroAssembler" 209 = some ("MacroAssembler", 76) := by decide +kernel
theorem gf_212 : gfR tables_1 "MacroAssembler" 212 = some ("MacroAssembler", 75) := by decide +kernel
theorem gf_221 : gfR tables_1 "MacroAssembler" 221 = some ("MacroAssembler", 57) := by decide +kernel
theorem gf_224 : gfR tables_1 "MacroAssembler" 224 = some ("MacroAssembler", 61) := by decide +kernel
theorem gf_227 : gfR tables_1 "MacroAssembler" 227 = some ("MacroAssembler", 58) := by decide +kernel
theorem gf_230 : gfR tables_1 "MacroAssembler" 230 = some ("MacroAssembler", 59) := by decide +kernel
theorem gf_233 : gfR tables_1 "MacroAssembler" 233 = some ("MacroAssembler", 60) := by decide +kernel
theorem gf_236 : gfR tables_1 "MacroAssembler" 236 = some ("MacroAssembler", 62) := by decide +kernel
theorem gf_239 : gfR tables_1 "MacroAssembler" 239 = some ("MacroAssembler", 65) := by decide +kernel
theorem gf_242 : gfR tables_1 "MacroAssembler" 242 = some ("MacroAssembler", 66) := by decide +kernel
theorem gf_274 : gfR tables_1 "MacroAssembler" 274 = some ("MacroAssembler", 80) := by decide +kernel
theorem gf_310 : gfR tables_1 "MacroAssembler" 310 = some ("MacroAssembler", 63) := by decide +kernel
theorem gf_316 : gfR tables_1 "MacroAssembler" 316 = some ("MacroAssembler", 64) := by decide +kernel
theorem gf_319 : gfR tables_1 "MacroAssembler" 319 = some ("MacroAssembler", 67) := by decide +kernel
theorem gf_322 : gfR tables_1 "MacroAssembler" 322 = some ("MacroAssembler", 68) := by decide +kernel
theorem gf_325 : gfR tables_1 "MacroAssembler" 325 = some ("MacroAssembler", 69) := by decide +kernel
theorem gf_328 : gfR tables_1 "MacroAssembler" 328 = some ("MacroAssembler", 70) := by decide +kernel
theorem gf_331 : gfR tables_1 "MacroAssembler" 331 = some ("MacroAssembler", 71) := by decide +kernel
theorem gf_334 : gfR tables_1 "MacroAssembler" 334 = some ("MacroAssembler", 72) := by decide +kernel
theorem gf_344 : gfR tables_1 "MacroAssembler" 344 = some ("MacroAssembler", 77) := by decide +kernel
theorem gf_347 : gfR tables_1 "MacroAssembler" 347 = some ("MacroAssembler", 78) := by decide +kernel
theorem gf_350 : gfR tables_1 "MacroAssembler" 350 = some ("MacroAssembler", 79) := by decide +kernel
theorem gf_400 : gfR tables_1 "MacroAssembler" 400 = some ("MacroAssembler", 82) := by decide +kernel
theorem gf_421 : gfR tables_1 "MacroAssembler" 421 = some ("MacroAssembler", 81) := by decide +kernel
theorem gf_424 : gfR tables_1 "MacroAssembler" 424 = some ("MacroAssembler", 84) := by decide +kernel
theorem gf_450 : gfR tables_1 "MacroAssembler" 450 = some ("MacroAssembler", 83) := by decide +kernel
section Rules
variable {b r q : Nat} {pre : AHeap} {s : Nat → Int32} {A : Nat → List Int32} {L : Nat → Int64} {B : Nat → List Int64} {post : AHeap} {ls : List Slot} {st : List Value} {H R : AHeap} {Q : Option Value → AHeap → Prop} {x y v z j : Int32} {J1 J2 : Int64} {sc : List Int32} {l0 l1 l2 l3 l4 l5 l6 l7 l8 l9 l10 l11 l12 l13 l14 l15 l16 l17 : Slot}
theorem m0_0 : M0 0 [.val (.ref r), l1, l2] st H Q = M0 1 [.val (.ref r), l1, l2] (.ref r :: st) H Q := w_x (show decode kb0 0 = .ok (.aload_n 0, 1) from by decide +kernel) rfl
theorem m0_1 : M0 1 ls [.ref r] H Q = M0 4 ls [] H Q := w_obj (show decode kb0 1 = .ok (.invokespecial 1, 3) from by decide +kernel) (sl := 0) (by decide +kernel) (by decide)
theorem m0_4 : M0 4 [.val (.ref r), l1, l2] st H Q = M0 5 [.val (.ref r), l1, l2] (.ref r :: st) H Q := w_x (show decode kb0 4 = .ok (.aload_n 0, 1) from by decide +kernel) rfl
theorem m0_5 : M0 5 ls st H Q = M0 6 ls (.int 1 :: st) H Q := w_con (show decode kb0 5 = .ok (.iconst 1, 1) from by decide +kernel) rfl (by decide)
theorem pf0_7 : pfR tables_1 y0.cls y0.name 7 = some ("MacroAssembler", 0, .int) := by decide +kernel
theorem m0_6 : M0 6 ls (.int v :: .ref b :: st) (put b pre s A L B post) Q = M0 9 ls st (put b pre (ou s 0 v) A L B post) Q := w_put (show decode kb0 6 = .ok (.putfield 7, 3) from by decide +kernel) pf0_7 put_o (Nat.zero_le _) (by show 0 < 85; omega) rfl put_s0
theorem m0_9 : M0 9 [.val (.ref r), l1, l2] st H Q = M0 10 [.val (.ref r), l1, l2] (.ref r :: st) H Q := w_x (show decode kb0 9 = .ok (.aload_n 0, 1) from by decide +kernel) rfl
theorem m0_10 : M0 10 ls st H Q = M0 11 ls (.int 2 :: st) H Q := w_con (show decode kb0 10 = .ok (.iconst 2, 1) from by decide +kernel) rfl (by decide)
theorem pf0_13 : pfR tables_1 y0.cls y0.name 13 = some ("MacroAssembler", 1, .int) := by decide +kernel
theorem m0_11 : M0 11 ls (.int v :: .ref b :: st) (put b pre s A L B post) Q = M0 14 ls st (put b pre (ou s 1 v) A L B post) Q := w_put (show decode kb0 11 = .ok (.putfield 13, 3) from by decide +kernel) pf0_13 put_o (Nat.zero_le _) (by show 1 < 85; omega) rfl put_s1
theorem m0_14 : M0 14 [.val (.ref r), l1, l2] st H Q = M0 15 [.val (.ref r), l1, l2] (.ref r :: st) H Q := w_x (show decode kb0 14 = .ok (.aload_n 0, 1) from by decide +kernel) rfl
theorem m0_15 : M0 15 ls st H Q = M0 16 ls (.int 1 :: st) H Q := w_con (show decode kb0 15 = .ok (.iconst 1, 1) from by decide +kernel) rfl (by decide)
theorem pf0_16 : pfR tables_1 y0.cls y0.name 16 = some ("MacroAssembler", 2, .int) := by decide +kernel
theorem m0_16 : M0 16 ls (.int v :: .ref b :: st) (put b pre s A L B post) Q = M0 19 ls st (put b pre (ou s 2 v) A L B post) Q := w_put (show decode kb0 16 = .ok (.putfield 16, 3) from by decide +kernel) pf0_16 put_o (Nat.zero_le _) (by show 2 < 85; omega) rfl put_s2
theorem m0_19 : M0 19 [.val (.ref r), l1, l2] st H Q = M0 20 [.val (.ref r), l1, l2] (.ref r :: st) H Q := w_x (show decode kb0 19 = .ok (.aload_n 0, 1) from by decide +kernel) rfl
theorem m0_20 : M0 20 ls st H Q = M0 21 ls (.int 2 :: st) H Q := w_con (show decode kb0 20 = .ok (.iconst 2, 1) from by decide +kernel) rfl (by decide)
theorem pf0_19 : pfR tables_1 y0.cls y0.name 19 = some ("MacroAssembler", 3, .int) := by decide +kernel
theorem m0_21 : M0 21 ls (.int v :: .ref b :: st) (put b pre s A L B post) Q = M0 24 ls st (put b pre (ou s 3 v) A L B post) Q := w_put (show decode kb0 21 = .ok (.putfield 19, 3) from by decide +kernel) pf0_19 put_o (Nat.zero_le _) (by show 3 < 85; omega) rfl put_s3
theorem m0_24 : M0 24 [.val (.ref r), l1, l2] st H Q = M0 25 [.val (.ref r), l1, l2] (.ref r :: st) H Q := w_x (show decode kb0 24 = .ok (.aload_n 0, 1) from by decide +kernel) rfl
theorem m0_25 : M0 25 ls st H Q = M0 26 ls (.int 3 :: st) H Q := w_con (show decode kb0 25 = .ok (.iconst 3, 1) from by decide +kernel) rfl (by decide)
theorem pf0_22 : pfR tables_1 y0.cls y0.name 22 = some ("MacroAssembler", 4, .int) := by decide +kernel
theorem m0_26 : M0 26 ls (.int v :: .ref b :: st) (put b pre s A L B post) Q = M0 29 ls st (put b pre (ou s 4 v) A L B post) Q := w_put (show decode kb0 26 = .ok (.putfield 22, 3) from by decide +kernel) pf0_22 put_o (Nat.zero_le _) (by show 4 < 85; omega) rfl put_s4
theorem m0_29 : M0 29 [.val (.ref r), l1, l2] st H Q = M0 30 [.val (.ref r), l1, l2] (.ref r :: st) H Q := w_x (show decode kb0 29 = .ok (.aload_n 0, 1) from by decide +kernel) rfl
theorem m0_30 : M0 30 ls st H Q = M0 31 ls (.int 0 :: st) H Q := w_con (show decode kb0 30 = .ok (.iconst 0, 1) from by decide +kernel) rfl (by decide)
theorem pf0_25 : pfR tables_1 y0.cls y0.name 25 = some ("MacroAssembler", 5, .int) := by decide +kernel
theorem m0_31 : M0 31 ls (.int v :: .ref b :: st) (put b pre s A L B post) Q = M0 34 ls st (put b pre (ou s 5 v) A L B post) Q := w_put (show decode kb0 31 = .ok (.putfield 25, 3) from by decide +kernel) pf0_25 put_o (Nat.zero_le _) (by show 5 < 85; omega) rfl put_s5
theorem m0_34 : M0 34 [.val (.ref r), l1, l2] st H Q = M0 35 [.val (.ref r), l1, l2] (.ref r :: st) H Q := w_x (show decode kb0 34 = .ok (.aload_n 0, 1) from by decide +kernel) rfl
theorem m0_35 : M0 35 ls st H Q = M0 36 ls (.int 1 :: st) H Q := w_con (show decode kb0 35 = .ok (.iconst 1, 1) from by decide +kernel) rfl (by decide)
theorem pf0_28 : pfR tables_1 y0.cls y0.name 28 = some ("MacroAssembler", 6, .int) := by decide +kernel
theorem m0_36 : M0 36 ls (.int v :: .ref b :: st) (put b pre s A L B post) Q = M0 39 ls st (put b pre (ou s 6 v) A L B post) Q := w_put (show decode kb0 36 = .ok (.putfield 28, 3) from by decide +kernel) pf0_28 put_o (Nat.zero_le _) (by show 6 < 85; omega) rfl put_s6
theorem m0_39 : M0 39 [.val (.ref r), l1, l2] st H Q = M0 40 [.val (.ref r), l1, l2] (.ref r :: st) H Q := w_x (show decode kb0 39 = .ok (.aload_n 0, 1) from by decide +kernel) rfl
theorem m0_40 : M0 40 ls st H Q = M0 41 ls (.int 2 :: st) H Q := w_con (show decode kb0 40 = .ok (.iconst 2, 1) from by decide +kernel) rfl (by decide)
theorem pf0_31 : pfR tables_1 y0.cls y0.name 31 = some ("MacroAssembler", 7, .int) := by decide +kernel
theorem m0_41 : M0 41 ls (.int v :: .ref b :: st) (put b pre s A L B post) Q = M0 44 ls st (put b pre (ou s 7 v) A L B post) Q := w_put (show decode kb0 41 = .ok (.putfield 31, 3) from by decide +kernel) pf0_31 put_o (Nat.zero_le _) (by show 7 < 85; omega) rfl put_s7
theorem m0_44 : M0 44 [.val (.ref r), l1, l2] st H Q = M0 45 [.val (.ref r), l1, l2] (.ref r :: st) H Q := w_x (show decode kb0 44 = .ok (.aload_n 0, 1) from by decide +kernel) rfl
theorem m0_45 : M0 45 ls st H Q = M0 46 ls (.int 0 :: st) H Q := w_con (show decode kb0 45 = .ok (.iconst 0, 1) from by decide +kernel) rfl (by decide)
theorem pf0_34 : pfR tables_1 y0.cls y0.name 34 = some ("MacroAssembler", 8, .int) := by decide +kernel
theorem m0_46 : M0 46 ls (.int v :: .ref b :: st) (put b pre s A L B post) Q = M0 49 ls st (put b pre (ou s 8 v) A L B post) Q := w_put (show decode kb0 46 = .ok (.putfield 34, 3) from by decide +kernel) pf0_34 put_o (Nat.zero_le _) (by show 8 < 85; omega) rfl put_s8
theorem m0_49 : M0 49 [.val (.ref r), l1, l2] st H Q = M0 50 [.val (.ref r), l1, l2] (.ref r :: st) H Q := w_x (show decode kb0 49 = .ok (.aload_n 0, 1) from by decide +kernel) rfl
theorem m0_50 : M0 50 ls st H Q = M0 51 ls (.int 1 :: st) H Q := w_con (show decode kb0 50 = .ok (.iconst 1, 1) from by decide +kernel) rfl (by decide)
theorem pf0_37 : pfR tables_1 y0.cls y0.name 37 = some ("MacroAssembler", 9, .int) := by decide +kernel
theorem m0_51 : M0 51 ls (.int v :: .ref b :: st) (put b pre s A L B post) Q = M0 54 ls st (put b pre (ou s 9 v) A L B post) Q := w_put (show decode kb0 51 = .ok (.putfield 37, 3) from by decide +kernel) pf0_37 put_o (Nat.zero_le _) (by show 9 < 85; omega) rfl put_s9
theorem m0_54 : M0 54 [.val (.ref r), l1, l2] st H Q = M0 55 [.val (.ref r), l1, l2] (.ref r :: st) H Q := w_x (show decode kb0 54 = .ok (.aload_n 0, 1) from by decide +kernel) rfl
theorem m0_55 : M0 55 ls st H Q = M0 56 ls (.int 2 :: st) H Q := w_con (show decode kb0 55 = .ok (.iconst 2, 1) from by decide +kernel) rfl (by decide)
theorem pf0_40 : pfR tables_1 y0.cls y0.name 40 = some ("MacroAssembler", 10, .int) := by decide +kernel
theorem m0_56 : M0 56 ls (.int v :: .ref b :: st) (put b pre s A L B post) Q = M0 59 ls st (put b pre (ou s 10 v) A L B post) Q := w_put (show decode kb0 56 = .ok (.putfield 40, 3) from by decide +kernel) pf0_40 put_o (Nat.zero_le _) (by show 10 < 85; omega) rfl put_s10
theorem m0_59 : M0 59 [.val (.ref r), l1, l2] st H Q = M0 60 [.val (.ref r), l1, l2] (.ref r :: st) H Q := w_x (show decode kb0 59 = .ok (.aload_n 0, 1) from by decide +kernel) rfl
theorem m0_60 : M0 60 ls st H Q = M0 62 ls (.int 10 :: st) H Q := w_con (show decode kb0 60 = .ok (.bipush 10, 2) from by decide +kernel) rfl (by decide)
theorem pf0_43 : pfR tables_1 y0.cls y0.name 43 = some ("MacroAssembler", 11, .int) := by decide +kernel
theorem m0_62 : M0 62 ls (.int v :: .ref b :: st) (put b pre s A L B post) Q = M0 65 ls st (put b pre (ou s 11 v) A L B post) Q := w_put (show decode kb0 62 = .ok (.putfield 43, 3) from by decide +kernel) pf0_43 put_o (Nat.zero_le _) (by show 11 < 85; omega) rfl put_s11
theorem m0_65 : M0 65 [.val (.ref r), l1, l2] st H Q = M0 66 [.val (.ref r), l1, l2] (.ref r :: st) H Q := w_x (show decode kb0 65 = .ok (.aload_n 0, 1) from by decide +kernel) rfl
theorem m0_66 : M0 66 ls st H Q = M0 68 ls (.int 11 :: st) H Q := w_con (show decode kb0 66 = .ok (.bipush 11, 2) from by decide +kernel) rfl (by decide)
theorem pf0_46 : pfR tables_1 y0.cls y0.name 46 = some ("MacroAssembler", 12, .int) := by decide +kernel
theorem m0_68 : M0 68 ls (.int v :: .ref b :: st) (put b pre s A L B post) Q = M0 71 ls st (put b pre (ou s 12 v) A L B post) Q := w_put (show decode kb0 68 = .ok (.putfield 46, 3) from by decide +kernel) pf0_46 put_o (Nat.zero_le _) (by show 12 < 85; omega) rfl put_s12
theorem m0_71 : M0 71 [.val (.ref r), l1, l2] st H Q = M0 72 [.val (.ref r), l1, l2] (.ref r :: st) H Q := w_x (show decode kb0 71 = .ok (.aload_n 0, 1) from by decide +kernel) rfl
theorem m0_72 : M0 72 ls st H Q = M0 74 ls (.int 12 :: st) H Q := w_con (show decode kb0 72 = .ok (.bipush 12, 2) from by decide +kernel) rfl (by decide)
theorem pf0_49 : pfR tables_1 y0.cls y0.name 49 = some ("MacroAssembler", 13, .int) := by decide +kernel
theorem m0_74 : M0 74 ls (.int v :: .ref b :: st) (put b pre s A L B post) Q = M0 77 ls st (put b pre (ou s 13 v) A L B post) Q := w_put (show decode kb0 74 = .ok (.putfield 49, 3) from by decide +kernel) pf0_49 put_o (Nat.zero_le _) (by show 13 < 85; omega) rfl put_s13
theorem m0_77 : M0 77 [.val (.ref r), l1, l2] st H Q = M0 78 [.val (.ref r), l1, l2] (.ref r :: st) H Q := w_x (show decode kb0 77 = .ok (.aload_n 0, 1) from by decide +kernel) rfl
theorem m0_78 : M0 78 ls st H Q = M0 80 ls (.int 13 :: st) H Q := w_con (show decode kb0 78 = .ok (.bipush 13, 2) from by decide +kernel) rfl (by decide)
theorem pf0_52 : pfR tables_1 y0.cls y0.name 52 = some ("MacroAssembler", 14, .int) := by decide +kernel
theorem m0_80 : M0 80 ls (.int v :: .ref b :: st) (put b pre s A L B post) Q = M0 83 ls st (put b pre (ou s 14 v) A L B post) Q := w_put (show decode kb0 80 = .ok (.putfield 52, 3) from by decide +kernel) pf0_52 put_o (Nat.zero_le _) (by show 14 < 85; omega) rfl put_s14
theorem m0_83 : M0 83 [.val (.ref r), l1, l2] st H Q = M0 84 [.val (.ref r), l1, l2] (.ref r :: st) H Q := w_x (show decode kb0 83 = .ok (.aload_n 0, 1) from by decide +kernel) rfl
theorem m0_84 : M0 84 ls st H Q = M0 86 ls (.int 14 :: st) H Q := w_con (show decode kb0 84 = .ok (.bipush 14, 2) from by decide +kernel) rfl (by decide)
theorem pf0_55 : pfR tables_1 y0.cls y0.name 55 = some ("MacroAssembler", 15, .int) := by decide +kernel
theorem m0_86 : M0 86 ls (.int v :: .ref b :: st) (put b pre s A L B post) Q = M0 89 ls st (put b pre (ou s 15 v) A L B post) Q := w_put (show decode kb0 86 = .ok (.putfield 55, 3) from by decide +kernel) pf0_55 put_o (Nat.zero_le _) (by show 15 < 85; omega) rfl put_s15
theorem m0_89 : M0 89 [.val (.ref r), l1, l2] st H Q = M0 90 [.val (.ref r), l1, l2] (.ref r :: st) H Q := w_x (show decode kb0 89 = .ok (.aload_n 0, 1) from by decide +kernel) rfl
theorem m0_90 : M0 90 ls st H Q = M0 92 ls (.int 15 :: st) H Q := w_con (show decode kb0 90 = .ok (.bipush 15, 2) from by decide +kernel) rfl (by decide)
theorem pf0_58 : pfR tables_1 y0.cls y0.name 58 = some ("MacroAssembler", 16, .int) := by decide +kernel
theorem m0_92 : M0 92 ls (.int v :: .ref b :: st) (put b pre s A L B post) Q = M0 95 ls st (put b pre (ou s 16 v) A L B post) Q := w_put (show decode kb0 92 = .ok (.putfield 58, 3) from by decide +kernel) pf0_58 put_o (Nat.zero_le _) (by show 16 < 85; omega) rfl put_s16
theorem m0_95 : M0 95 [.val (.ref r), l1, l2] st H Q = M0 96 [.val (.ref r), l1, l2] (.ref r :: st) H Q := w_x (show decode kb0 95 = .ok (.aload_n 0, 1) from by decide +kernel) rfl
theorem m0_96 : M0 96 ls st H Q = M0 98 ls (.int 16 :: st) H Q := w_con (show decode kb0 96 = .ok (.bipush 16, 2) from by decide +kernel) rfl (by decide)
theorem pf0_61 : pfR tables_1 y0.cls y0.name 61 = some ("MacroAssembler", 17, .int) := by decide +kernel
theorem m0_98 : M0 98 ls (.int v :: .ref b :: st) (put b pre s A L B post) Q = M0 101 ls st (put b pre (ou s 17 v) A L B post) Q := w_put (show decode kb0 98 = .ok (.putfield 61, 3) from by decide +kernel) pf0_61 put_o (Nat.zero_le _) (by show 17 < 85; omega) rfl put_s17
theorem m0_101 : M0 101 [.val (.ref r), l1, l2] st H Q = M0 102 [.val (.ref r), l1, l2] (.ref r :: st) H Q := w_x (show decode kb0 101 = .ok (.aload_n 0, 1) from by decide +kernel) rfl
theorem m0_102 : M0 102 ls st H Q = M0 104 ls (.int 17 :: st) H Q := w_con (show decode kb0 102 = .ok (.bipush 17, 2) from by decide +kernel) rfl (by decide)
theorem pf0_64 : pfR tables_1 y0.cls y0.name 64 = some ("MacroAssembler", 18, .int) := by decide +kernel
theorem m0_104 : M0 104 ls (.int v :: .ref b :: st) (put b pre s A L B post) Q = M0 107 ls st (put b pre (ou s 18 v) A L B post) Q := w_put (show decode kb0 104 = .ok (.putfield 64, 3) from by decide +kernel) pf0_64 put_o (Nat.zero_le _) (by show 18 < 85; omega) rfl put_s18
theorem m0_107 : M0 107 [.val (.ref r), l1, l2] st H Q = M0 108 [.val (.ref r), l1, l2] (.ref r :: st) H Q := w_x (show decode kb0 107 = .ok (.aload_n 0, 1) from by decide +kernel) rfl
theorem m0_108 : M0 108 ls st H Q = M0 110 ls (.int 18 :: st) H Q := w_con (show decode kb0 108 = .ok (.bipush 18, 2) from by decide +kernel) rfl (by decide)
theorem pf0_67 : pfR tables_1 y0.cls y0.name 67 = some ("MacroAssembler", 19, .int) := by decide +kernel
theorem m0_110 : M0 110 ls (.int v :: .ref b :: st) (put b pre s A L B post) Q = M0 113 ls st (put b pre (ou s 19 v) A L B post) Q := w_put (show decode kb0 110 = .ok (.putfield 67, 3) from by decide +kernel) pf0_67 put_o (Nat.zero_le _) (by show 19 < 85; omega) rfl put_s19
theorem m0_113 : M0 113 [.val (.ref r), l1, l2] st H Q = M0 114 [.val (.ref r), l1, l2] (.ref r :: st) H Q := w_x (show decode kb0 113 = .ok (.aload_n 0, 1) from by decide +kernel) rfl
theorem m0_114 : M0 114 ls st H Q = M0 116 ls (.int 81 :: st) H Q := w_con (show decode kb0 114 = .ok (.bipush 81, 2) from by decide +kernel) rfl (by decide)
theorem pf0_70 : pfR tables_1 y0.cls y0.name 70 = some ("MacroAssembler", 20, .int) := by decide +kernel
theorem m0_116 : M0 116 ls (.int v :: .ref b :: st) (put b pre s A L B post) Q = M0 119 ls st (put b pre (ou s 20 v) A L B post) Q := w_put (show decode kb0 116 = .ok (.putfield 70, 3) from by decide +kernel) pf0_70 put_o (Nat.zero_le _) (by show 20 < 85; omega) rfl put_s20
theorem m0_119 : M0 119 [.val (.ref r), l1, l2] st H Q = M0 120 [.val (.ref r), l1, l2] (.ref r :: st) H Q := w_x (show decode kb0 119 = .ok (.aload_n 0, 1) from by decide +kernel) rfl
theorem m0_120 : M0 120 ls st H Q = M0 123 ls (.int 640 :: st) H Q := w_con (show decode kb0 120 = .ok (.sipush 640, 3) from by decide +kernel) rfl (by decide)
theorem m0_128 : M0 128 [.val (.ref r), l1, l2] st H Q = M0 129 [.val (.ref r), l1, l2] (.ref r :: st) H Q := w_x (show decode kb0 128 = .ok (.aload_n 0, 1) from by decide +kernel) rfl
theorem m0_129 : M0 129 ls st H Q = M0 132 ls (.int 640 :: st) H Q := w_con (show decode kb0 129 = .ok (.sipush 640, 3) from by decide +kernel) rfl (by decide)
theorem m0_137 : M0 137 [.val (.ref r), l1, l2] st H Q = M0 138 [.val (.ref r), l1, l2] (.ref r :: st) H Q := w_x (show decode kb0 137 = .ok (.aload_n 0, 1) from by decide +kernel) rfl
theorem m0_138 : M0 138 ls st H Q = M0 141 ls (.int 640 :: st) H Q := w_con (show decode kb0 138 = .ok (.sipush 640, 3) from by decide +kernel) rfl (by decide)
theorem m0_146 : M0 146 [.val (.ref r), l1, l2] st H Q = M0 147 [.val (.ref r), l1, l2] (.ref r :: st) H Q := w_x (show decode kb0 146 = .ok (.aload_n 0, 1) from by decide +kernel) rfl
theorem m0_147 : M0 147 ls st H Q = M0 149 ls (.int 32 :: st) H Q := w_con (show decode kb0 147 = .ok (.bipush 32, 2) from by decide +kernel) rfl (by decide)
theorem m0_154 : M0 154 [.val (.ref r), l1, l2] st H Q = M0 155 [.val (.ref r), l1, l2] (.ref r :: st) H Q := w_x (show decode kb0 154 = .ok (.aload_n 0, 1) from by decide +kernel) rfl
theorem m0_155 : M0 155 ls st H Q = M0 157 ls (.int 16 :: st) H Q := w_con (show decode kb0 155 = .ok (.bipush 16, 2) from by decide +kernel) rfl (by decide)
theorem m0_162 : M0 162 [.val (.ref r), l1, l2] st H Q = M0 163 [.val (.ref r), l1, l2] (.ref r :: st) H Q := w_x (show decode kb0 162 = .ok (.aload_n 0, 1) from by decide +kernel) rfl
theorem m0_163 : M0 163 ls st H Q = M0 165 ls (.int 16 :: st) H Q := w_con (show decode kb0 163 = .ok (.bipush 16, 2) from by decide +kernel) rfl (by decide)
theorem m0_170 : M0 170 [.val (.ref r), l1, l2] st H Q = M0 171 [.val (.ref r), l1, l2] (.ref r :: st) H Q := w_x (show decode kb0 170 = .ok (.aload_n 0, 1) from by decide +kernel) rfl
theorem m0_171 : M0 171 ls st H Q = M0 174 ls (.int 624 :: st) H Q := w_con (show decode kb0 171 = .ok (.sipush 624, 3) from by decide +kernel) rfl (by decide)
theorem m0_179 : M0 179 [.val (.ref r), l1, l2] st H Q = M0 180 [.val (.ref r), l1, l2] (.ref r :: st) H Q := w_x (show decode kb0 179 = .ok (.aload_n 0, 1) from by decide +kernel) rfl
theorem m0_180 : M0 180 ls st H Q = M0 182 ls (.int 12 :: st) H Q := w_con (show decode kb0 180 = .ok (.bipush 12, 2) from by decide +kernel) rfl (by decide)
theorem m0_187 : M0 187 [.val (.ref r), l1, l2] st H Q = M0 188 [.val (.ref r), l1, l2] (.ref r :: st) H Q := w_x (show decode kb0 187 = .ok (.aload_n 0, 1) from by decide +kernel) rfl
theorem m0_188 : M0 188 ls st H Q = M0 190 ls (.int 8 :: st) H Q := w_con (show decode kb0 188 = .ok (.bipush 8, 2) from by decide +kernel) rfl (by decide)
theorem m0_195 : M0 195 [.val (.ref r), l1, l2] st H Q = M0 196 [.val (.ref r), l1, l2] (.ref r :: st) H Q := w_x (show decode kb0 195 = .ok (.aload_n 0, 1) from by decide +kernel) rfl
theorem m0_196 : M0 196 ls st H Q = M0 198 ls (.int 8 :: st) H Q := w_con (show decode kb0 196 = .ok (.bipush 8, 2) from by decide +kernel) rfl (by decide)
theorem m0_203 : M0 203 [.val (.ref r), l1, l2] st H Q = M0 204 [.val (.ref r), l1, l2] (.ref r :: st) H Q := w_x (show decode kb0 203 = .ok (.aload_n 0, 1) from by decide +kernel) rfl
theorem m0_204 : M0 204 ls st H Q = M0 206 ls (.int 8 :: st) H Q := w_con (show decode kb0 204 = .ok (.bipush 8, 2) from by decide +kernel) rfl (by decide)
theorem m0_211 : M0 211 [.val (.ref r), l1, l2] st H Q = M0 212 [.val (.ref r), l1, l2] (.ref r :: st) H Q := w_x (show decode kb0 211 = .ok (.aload_n 0, 1) from by decide +kernel) rfl
theorem m0_212 : M0 212 ls st H Q = M0 214 ls (.int 8 :: st) H Q := w_con (show decode kb0 212 = .ok (.bipush 8, 2) from by decide +kernel) rfl (by decide)
theorem m0_219 : M0 219 [.val (.ref r), l1, l2] st H Q = M0 220 [.val (.ref r), l1, l2] (.ref r :: st) H Q := w_x (show decode kb0 219 = .ok (.aload_n 0, 1) from by decide +kernel) rfl
theorem m0_220 : M0 220 ls st H Q = M0 222 ls (.int 8 :: st) H Q := w_con (show decode kb0 220 = .ok (.bipush 8, 2) from by decide +kernel) rfl (by decide)
theorem m0_227 : M0 227 [.val (.ref r), l1, l2] st H Q = M0 228 [.val (.ref r), l1, l2] (.ref r :: st) H Q := w_x (show decode kb0 227 = .ok (.aload_n 0, 1) from by decide +kernel) rfl
theorem m0_228 : M0 228 ls st H Q = M0 230 ls (.int 8 :: st) H Q := w_con (show decode kb0 228 = .ok (.bipush 8, 2) from by decide +kernel) rfl (by decide)
theorem m0_235 : M0 235 [.val (.ref r), l1, l2] st H Q = M0 236 [.val (.ref r), l1, l2] (.ref r :: st) H Q := w_x (show decode kb0 235 = .ok (.aload_n 0, 1) from by decide +kernel) rfl
theorem m0_236 : M0 236 ls st H Q = M0 238 ls (.int 8 :: st) H Q := w_con (show decode kb0 236 = .ok (.bipush 8, 2) from by decide +kernel) rfl (by decide)
theorem m0_243 : M0 243 [.val (.ref r), l1, l2] st H Q = M0 244 [.val (.ref r), l1, l2] (.ref r :: st) H Q := w_x (show decode kb0 243 = .ok (.aload_n 0, 1) from by decide +kernel) rfl
theorem m0_244 : M0 244 ls st H Q = M0 246 ls (.int 8 :: st) H Q := w_con (show decode kb0 244 = .ok (.bipush 8, 2) from by decide +kernel) rfl (by decide)
theorem m0_251 : M0 251 [.val (.ref r), l1, l2] st H Q = M0 252 [.val (.ref r), l1, l2] (.ref r :: st) H Q := w_x (show decode kb0 251 = .ok (.aload_n 0, 1) from by decide +kernel) rfl
theorem m0_252 : M0 252 ls st H Q = M0 254 ls (.int 8 :: st) H Q := w_con (show decode kb0 252 = .ok (.bipush 8, 2) from by decide +kernel) rfl (by decide)
theorem m0_259 : M0 259 [.val (.ref r), l1, l2] st H Q = M0 260 [.val (.ref r), l1, l2] (.ref r :: st) H Q := w_x (show decode kb0 259 = .ok (.aload_n 0, 1) from by decide +kernel) rfl
theorem m0_260 : M0 260 ls st H Q = M0 262 ls (.int 8 :: st) H Q := w_con (show decode kb0 260 = .ok (.bipush 8, 2) from by decide +kernel) rfl (by decide)
theorem m0_267 : M0 267 [.val (.ref r), l1, l2] st H Q = M0 268 [.val (.ref r), l1, l2] (.ref r :: st) H Q := w_x (show decode kb0 267 = .ok (.aload_n 0, 1) from by decide +kernel) rfl
theorem m0_268 : M0 268 ls st H Q = M0 270 ls (.int 8 :: st) H Q := w_con (show decode kb0 268 = .ok (.bipush 8, 2) from by decide +kernel) rfl (by decide)
theorem m0_275 : M0 275 [.val (.ref r), l1, l2] st H Q = M0 276 [.val (.ref r), l1, l2] (.ref r :: st) H Q := w_x (show decode kb0 275 = .ok (.aload_n 0, 1) from by decide +kernel) rfl
theorem m0_276 : M0 276 ls st H Q = M0 278 ls (.int 32 :: st) H Q := w_con (show decode kb0 276 = .ok (.bipush 32, 2) from by decide +kernel) rfl (by decide)
theorem m0_283 : M0 283 [.val (.ref r), l1, l2] st H Q = M0 284 [.val (.ref r), l1, l2] (.ref r :: st) H Q := w_x (show decode kb0 283 = .ok (.aload_n 0, 1) from by decide +kernel) rfl
theorem m0_284 : M0 284 ls st H Q = M0 287 ls (.int 2592 :: st) H Q := w_con (show decode kb0 284 = .ok (.sipush 2592, 3) from by decide +kernel) rfl (by decide)
theorem m0_292 : M0 292 [.val (.ref r), l1, l2] st H Q = M0 293 [.val (.ref r), l1, l2] (.ref r :: st) H Q := w_x (show decode kb0 292 = .ok (.aload_n 0, 1) from by decide +kernel) rfl
theorem m0_293 : M0 293 ls st H Q = M0 296 ls (.int 640 :: st) H Q := w_con (show decode kb0 293 = .ok (.sipush 640, 3) from by decide +kernel) rfl (by decide)
theorem m0_301 : M0 301 [.val (.ref r), l1, l2] st H Q = M0 302 [.val (.ref r), l1, l2] (.ref r :: st) H Q := w_x (show decode kb0 301 = .ok (.aload_n 0, 1) from by decide +kernel) rfl
theorem m0_302 : M0 302 ls st H Q = M0 305 ls (.int 640 :: st) H Q := w_con (show decode kb0 302 = .ok (.sipush 640, 3) from by decide +kernel) rfl (by decide)
theorem m0_310 : M0 310 [.val (.ref r), l1, l2] st H Q = M0 311 [.val (.ref r), l1, l2] (.ref r :: st) H Q := w_x (show decode kb0 310 = .ok (.aload_n 0, 1) from by decide +kernel) rfl
theorem m0_311 : M0 311 ls st H Q = M0 314 ls (.int 640 :: st) H Q := w_con (show decode kb0 311 = .ok (.sipush 640, 3) from by decide +kernel) rfl (by decide)
theorem m0_319 : M0 319 [.val (.ref r), l1, l2] st H Q = M0 320 [.val (.ref r), l1, l2] (.ref r :: st) H Q := w_x (show decode kb0 319 = .ok (.aload_n 0, 1) from by decide +kernel) rfl
theorem m0_320 : M0 320 ls st H Q = M0 323 ls (.int 640 :: st) H Q := w_con (show decode kb0 320 = .ok (.sipush 640, 3) from by decide +kernel) rfl (by decide)
theorem m0_328 : M0 328 [.val (.ref r), l1, l2] st H Q = M0 329 [.val (.ref r), l1, l2] (.ref r :: st) H Q := w_x (show decode kb0 328 = .ok (.aload_n 0, 1) from by decide +kernel) rfl
theorem m0_329 : M0 329 ls st H Q = M0 331 ls (.int 16 :: st) H Q := w_con (show decode kb0 329 = .ok (.bipush 16, 2) from by decide +kernel) rfl (by decide)
theorem m0_336 : M0 336 [.val (.ref r), l1, l2] st H Q = M0 337 [.val (.ref r), l1, l2] (.ref r :: st) H Q := w_x (show decode kb0 336 = .ok (.aload_n 0, 1) from by decide +kernel) rfl
theorem m0_337 : M0 337 ls st H Q = M0 339 ls (.int 16 :: st) H Q := w_con (show decode kb0 337 = .ok (.bipush 16, 2) from by decide +kernel) rfl (by decide)
theorem m0_344 : M0 344 [.val (.ref r), l1, l2] st H Q = M0 345 [.val (.ref r), l1, l2] (.ref r :: st) H Q := w_x (show decode kb0 344 = .ok (.aload_n 0, 1) from by decide +kernel) rfl
theorem m0_345 : M0 345 ls st H Q = M0 347 ls (.int 32 :: st) H Q := w_con (show decode kb0 345 = .ok (.bipush 32, 2) from by decide +kernel) rfl (by decide)
theorem m0_352 : M0 352 [.val (.ref r), l1, l2] st H Q = M0 353 [.val (.ref r), l1, l2] (.ref r :: st) H Q := w_x (show decode kb0 352 = .ok (.aload_n 0, 1) from by decide +kernel) rfl
theorem m0_353 : M0 353 ls st H Q = M0 355 ls (.int 32 :: st) H Q := w_con (show decode kb0 353 = .ok (.bipush 32, 2) from by decide +kernel) rfl (by decide)
theorem m0_360 : M0 360 [.val (.ref r), l1, l2] st H Q = M0 361 [.val (.ref r), l1, l2] (.ref r :: st) H Q := w_x (show decode kb0 360 = .ok (.aload_n 0, 1) from by decide +kernel) rfl
theorem m0_361 : M0 361 ls st H Q = M0 363 ls (.int 32 :: st) H Q := w_con (show decode kb0 361 = .ok (.bipush 32, 2) from by decide +kernel) rfl (by decide)
theorem m0_368 : M0 368 [.val (.ref r), l1, l2] st H Q = M0 369 [.val (.ref r), l1, l2] (.ref r :: st) H Q := w_x (show decode kb0 368 = .ok (.aload_n 0, 1) from by decide +kernel) rfl
theorem m0_369 : M0 369 ls st H Q = M0 371 ls (.int 32 :: st) H Q := w_con (show decode kb0 369 = .ok (.bipush 32, 2) from by decide +kernel) rfl (by decide)
theorem m0_376 : M0 376 [.val (.ref r), l1, l2] st H Q = M0 377 [.val (.ref r), l1, l2] (.ref r :: st) H Q := w_x (show decode kb0 376 = .ok (.aload_n 0, 1) from by decide +kernel) rfl
theorem m0_377 : M0 377 ls st H Q = M0 379 ls (.int 32 :: st) H Q := w_con (show decode kb0 377 = .ok (.bipush 32, 2) from by decide +kernel) rfl (by decide)
theorem m0_384 : M0 384 [.val (.ref r), l1, l2] st H Q = M0 385 [.val (.ref r), l1, l2] (.ref r :: st) H Q := w_x (show decode kb0 384 = .ok (.aload_n 0, 1) from by decide +kernel) rfl
theorem m0_385 : M0 385 ls st H Q = M0 388 ls (.int 512 :: st) H Q := w_con (show decode kb0 385 = .ok (.sipush 512, 3) from by decide +kernel) rfl (by decide)
theorem m0_393 : M0 393 [.val (.ref r), l1, l2] st H Q = M0 394 [.val (.ref r), l1, l2] (.ref r :: st) H Q := w_x (show decode kb0 393 = .ok (.aload_n 0, 1) from by decide +kernel) rfl
theorem m0_394 : M0 394 ls st H Q = M0 397 ls (.int 512 :: st) H Q := w_con (show decode kb0 394 = .ok (.sipush 512, 3) from by decide +kernel) rfl (by decide)
theorem m0_402 : M0 402 [l0, .val (.int v), l2] st H Q = M0 403 [l0, .val (.int v), l2] (.int v :: st) H Q := w_x (show decode kb0 402 = .ok (.iload_n 1, 1) from by decide +kernel) rfl
theorem m0_403u : M0 403 [l0, l1, .unset] ((.int v) :: st) H Q = M0 404 [l0, l1, .val (.int v)] st H Q := w_st (i := 2) (p := isI) (show decode kb0 403 = .ok (.istore_n 2, 1) from by decide +kernel) rfl rfl rfl rfl rfl rfl
theorem m0_404 : M0 404 [l0, l1, .val (.int v)] st H Q = M0 405 [l0, l1, .val (.int v)] (.int v :: st) H Q := w_x (show decode kb0 404 = .ok (.iload_n 2, 1) from by decide +kernel) rfl
theorem m0_405 : M0 405 ls st H Q = M0 407 ls (.int 8 :: st) H Q := w_con (show decode kb0 405 = .ok (.bipush 8, 2) from by decide +kernel) rfl (by decide)
theorem m0_407 : M0 407 ls (.int y :: .int x :: st) H Q = if x < y then M0 410 ls st H Q else M0 413 ls st H Q := w_icmpN (show decode kb0 407 = .ok (.if_icmp .ge 6, 3) from by decide +kernel) (i_ge x y) rfl
theorem m0_410 : M0 410 ls st H Q = M0 412 ls (.int 8 :: st) H Q := w_con (show decode kb0 410 = .ok (.bipush 8, 2) from by decide +kernel) rfl (by decide)
theorem m0_412i : M0 412 [l0, l1, .val (.int z)] ((.int v) :: st) H Q = M0 413 [l0, l1, .val (.int v)] st H Q := w_st (i := 2) (p := isI) (show decode kb0 412 = .ok (.istore_n 2, 1) from by decide +kernel) rfl rfl rfl rfl rfl rfl
theorem m0_413 : M0 413 [l0, l1, .val (.int v)] st H Q = M0 414 [l0, l1, .val (.int v)] (.int v :: st) H Q := w_x (show decode kb0 413 = .ok (.iload_n 2, 1) from by decide +kernel) rfl
theorem m0_414 : M0 414 ls st H Q = M0 416 ls (.int 32 :: st) H Q := w_con (show decode kb0 414 = .ok (.bipush 32, 2) from by decide +kernel) rfl (by decide)
theorem m0_416 : M0 416 ls (.int y :: .int x :: st) H Q = if y < x then M0 419 ls st H Q else M0 422 ls st H Q := w_icmpN (show decode kb0 416 = .ok (.if_icmp .le 6, 3) from by decide +kernel) (i_le x y) rfl
theorem m0_419 : M0 419 ls st H Q = M0 421 ls (.int 32 :: st) H Q := w_con (show decode kb0 419 = .ok (.bipush 32, 2) from by decide +kernel) rfl (by decide)
theorem m0_421i : M0 421 [l0, l1, .val (.int z)] ((.int v) :: st) H Q = M0 422 [l0, l1, .val (.int v)] st H Q := w_st (i := 2) (p := isI) (show decode kb0 421 = .ok (.istore_n 2, 1) from by decide +kernel) rfl rfl rfl rfl rfl rfl
theorem m0_422 : M0 422 [.val (.ref r), l1, l2] st H Q = M0 423 [.val (.ref r), l1, l2] (.ref r :: st) H Q := w_x (show decode kb0 422 = .ok (.aload_n 0, 1) from by decide +kernel) rfl
theorem m0_423 : M0 423 [l0, l1, .val (.int v)] st H Q = M0 424 [l0, l1, .val (.int v)] (.int v :: st) H Q := w_x (show decode kb0 423 = .ok (.iload_n 2, 1) from by decide +kernel) rfl
theorem pf0_179 : pfR tables_1 y0.cls y0.name 179 = some ("MacroAssembler", 55, .int) := by decide +kernel
theorem m0_424 : M0 424 ls (.int v :: .ref b :: st) (put b pre s A L B post) Q = M0 427 ls st (put b pre (ou s 21 v) A L B post) Q := w_put (show decode kb0 424 = .ok (.putfield 179, 3) from by decide +kernel) pf0_179 put_o (Nat.zero_le _) (by show 55 < 85; omega) rfl put_s21
theorem m0_427 : M0 427 ls [] H Q = Q none H := w_vret (show decode kb0 427 = .ok (.return_, 1) from by decide +kernel) rfl
theorem m1_0 : M1 0 ls st H Q = M1 1 ls (.int 0 :: st) H Q := w_con (show decode kb1 0 = .ok (.iconst 0, 1) from by decide +kernel) rfl (by decide)
theorem m1_1u : M1 1 [l0, l1, l2, .unset, l4, l5] ((.int v) :: st) H Q = M1 2 [l0, l1, l2, .val (.int v), l4, l5] st H Q := w_st (i := 3) (p := isI) (show decode kb1 1 = .ok (.istore_n 3, 1) from by decide +kernel) rfl rfl rfl rfl rfl rfl
theorem m1_2 : M1 2 ls st H Q = M1 3 ls (.int 0 :: st) H Q := w_con (show decode kb1 2 = .ok (.iconst 0, 1) from by decide +kernel) rfl (by decide)
theorem m1_3u : M1 3 [l0, l1, l2, l3, .unset, l5] ((.int v) :: st) H Q = M1 5 [l0, l1, l2, l3, .val (.int v), l5] st H Q := w_st (i := 4) (p := isI) (show decode kb1 3 = .ok (.istore 4, 2) from by decide +kernel) rfl rfl rfl rfl rfl rfl
theorem m1_5 : M1 5 [l0, l1, l2, l3, .val (.int v), l5] st H Q = M1 7 [l0, l1, l2, l3, .val (.int v), l5] (.int v :: st) H Q := w_x (show decode kb1 5 = .ok (.iload 4, 2) from by decide +kernel) rfl
theorem m1_7 : M1 7 ls st H Q = M1 9 ls (.int 8 :: st) H Q := w_con (show decode kb1 7 = .ok (.bipush 8, 2) from by decide +kernel) rfl (by decide)
theorem m1_9 : M1 9 ls (.int y :: .int x :: st) H Q = if x < y then M1 12 ls st H Q else M1 49 ls st H Q := w_icmpN (show decode kb1 9 = .ok (.if_icmp .ge 40, 3) from by decide +kernel) (i_ge x y) rfl
theorem m1_12 : M1 12 [.val (.ref r), l1, l2, l3, l4, l5] st H Q = M1 13 [.val (.ref r), l1, l2, l3, l4, l5] (.ref r :: st) H Q := w_x (show decode kb1 12 = .ok (.aload_n 0, 1) from by decide +kernel) rfl
theorem m1_13 : M1 13 [l0, .val (.long J1), l2, l3, l4, l5] st H Q = M1 14 [l0, .val (.long J1), l2, l3, l4, l5] (.long J1 :: st) H Q := w_x (show decode kb1 13 = .ok (.lload_n 1, 1) from by decide +kernel) rfl
theorem m1_14 : M1 14 [l0, l1, l2, l3, .val (.int v), l5] st H Q = M1 16 [l0, l1, l2, l3, .val (.int v), l5] (.int v :: st) H Q := w_x (show decode kb1 14 = .ok (.iload 4, 2) from by decide +kernel) rfl
theorem cr1_192 : vR tables_1 dn y1 192 = some (true, y2, prog_1_method_19_code, 4, (some .int), 2, 2) := pR_of (cR_of (by decide +kernel) rc_2 dn_2 dn_1 (sig := ⟨[.long, .int], some .int⟩) (by decide +kernel) (by decide +kernel) rfl rfl) (by decide +kernel) (by decide +kernel)
theorem m1_16 (a0 : Int64) (a1 : Int32) : M1 16 ls [.int a1, .long a0, .ref b] (put b pre s A L B post) Q = M2 0 [.val (.ref b), .val (.long a0), .second, .val (.int a1)] [] (put b pre s A L B post) (fun v H1 => M1 19 ls (v.toList ++ []) H1 Q) := w_virt (as := [.int a1, .long a0]) (rest := []) (a := b) (show decode kb1 16 = .ok (.invokevirtual 192, 3) from by decide +kernel) cr1_192 put_o rfl rfl (Nat.le_of_ble_eq_true rfl) (by show 4 ≤ 4; omega) rfl
theorem m1_19u : M1 19 [l0, l1, l2, l3, l4, .unset] ((.int v) :: st) H Q = M1 21 [l0, l1, l2, l3, l4, .val (.int v)] st H Q := w_st (i := 5) (p := isI) (show decode kb1 19 = .ok (.istore 5, 2) from by decide +kernel) rfl rfl rfl rfl rfl rfl
theorem m1_19i : M1 19 [l0, l1, l2, l3, l4, .val (.int z)] ((.int v) :: st) H Q = M1 21 [l0, l1, l2, l3, l4, .val (.int v)] st H Q := w_st (i := 5) (p := isI) (show decode kb1 19 = .ok (.istore 5, 2) from by decide +kernel) rfl rfl rfl rfl rfl rfl
theorem m1_19r : M1 19 [l0, l1, l2, l3, l4, .val (.ref q)] ((.int v) :: st) H Q = M1 21 [l0, l1, l2, l3, l4, .val (.int v)] st H Q := w_st (i := 5) (p := isI) (show decode kb1 19 = .ok (.istore 5, 2) from by decide +kernel) rfl rfl rfl rfl rfl rfl
theorem m1_21 : M1 21 [l0, l1, l2, l3, l4, .val (.int v)] st H Q = M1 23 [l0, l1, l2, l3, l4, .val (.int v)] (.int v :: st) H Q := w_x (show decode kb1 21 = .ok (.iload 5, 2) from by decide +kernel) rfl
theorem m1_23 : M1 23 ls (.int x :: st) H Q = if x = 0 then M1 26 ls st H Q else M1 29 ls st H Q := w_ifN (show decode kb1 23 = .ok (.ifCond .ne 6, 3) from by decide +kernel) (z_ne x) rfl
theorem m1_26 : M1 26 ls st H Q = M1 49 ls st H Q := w_x (show decode kb1 26 = .ok (.goto 23, 3) from by decide +kernel) rfl
theorem m1_29 : M1 29 [.val (.ref r), l1, l2, l3, l4, l5] st H Q = M1 30 [.val (.ref r), l1, l2, l3, l4, l5] (.ref r :: st) H Q := w_x (show decode kb1 29 = .ok (.aload_n 0, 1) from by decide +kernel) rfl
theorem m1_30 : M1 30 [l0, l1, l2, l3, l4, .val (.int v)] st H Q = M1 32 [l0, l1, l2, l3, l4, .val (.int v)] (.int v :: st) H Q := w_x (show decode kb1 30 = .ok (.iload 5, 2) from by decide +kernel) rfl
theorem cr1_182 : vR tables_1 dn y1 182 = some (true, y3, prog_1_method_18_code, 2, (some .boolean), 1, 4) := pR_of (cR_of (by decide +kernel) rc_3 dn_3 dn_1 (sig := ⟨[.int], some .boolean⟩) (by decide +kernel) (by decide +kernel) rfl rfl) (by decide +kernel) (by decide +kernel)
theorem m1_32 (a0 : Int32) : M1 32 ls [.int a0, .ref b] (put b pre s A L B post) Q = M3 0 [.val (.ref b), .val (.int a0)] [] (put b pre s A L B post) (fun v H1 => M1 35 ls (v.toList ++ []) H1 Q) := w_virt (as := [.int a0]) (rest := []) (a := b) (show decode kb1 32 = .ok (.invokevirtual 182, 3) from by decide +kernel) cr1_182 put_o rfl rfl (Nat.le_of_ble_eq_true rfl) (by show 2 ≤ 2; omega) rfl
theorem m1_35 : M1 35 ls (.int x :: st) H Q = if x = 0 then M1 38 ls st H Q else M1 40 ls st H Q := w_ifN (show decode kb1 35 = .ok (.ifCond .ne 5, 3) from by decide +kernel) (z_ne x) rfl
theorem m1_38 : M1 38 ls st H Q = M1 39 ls (.int (-1) :: st) H Q := w_con (show decode kb1 38 = .ok (.iconst (-1), 1) from by decide +kernel) rfl (by decide)
theorem m1_39 : M1 39 ls (.int z :: st) H Q = Q (some (.int z)) H := w_iret (show decode kb1 39 = .ok (.ireturn, 1) from by decide +kernel) rfl
theorem m1_40 : M1 40 [l0, l1, l2, .val (.int v), l4, l5] st H Q = M1 43 [l0, l1, l2, .val (.int (v + 1)), l4, l5] st H Q := w_iinc (show decode kb1 40 = .ok (.iinc 3 1, 3) from by decide +kernel) rfl (by decide) rfl
theorem m1_43 : M1 43 [l0, l1, l2, l3, .val (.int v), l5] st H Q = M1 46 [l0, l1, l2, l3, .val (.int (v + 1)), l5] st H Q := w_iinc (show decode kb1 43 = .ok (.iinc 4 1, 3) from by decide +kernel) rfl (by decide) rfl
theorem m1_46 : M1 46 ls st H Q = M1 5 ls st H Q := w_x (show decode kb1 46 = .ok (.goto (-41), 3) from by decide +kernel) rfl
theorem m1_49 : M1 49 [.val (.ref r), l1, l2, l3, l4, l5] st H Q = M1 50 [.val (.ref r), l1, l2, l3, l4, l5] (.ref r :: st) H Q := w_x (show decode kb1 49 = .ok (.aload_n 0, 1) from by decide +kernel) rfl
theorem m1_50 : M1 50 ls (.ref b :: st) (put b pre s A L B post) Q = M1 53 ls (.int (s 22) :: st) (put b pre s A L B post) Q := w_get (show decode kb1 50 = .ok (.getfield 186, 3) from by decide +kernel) gf_186 put_o rfl
theorem m1_53 : M1 53 [l0, l1, l2, .val (.int v), l4, l5] st H Q = M1 54 [l0, l1, l2, .val (.int v), l4, l5] (.int v :: st) H Q := w_x (show decode kb1 53 = .ok (.iload_n 3, 1) from by decide +kernel) rfl
theorem m1_54 : M1 54 ls (.int y :: .int x :: st) H Q = M1 55 ls (.int (x + y) :: st) H Q := w_x (show decode kb1 54 = .ok (.iadd, 1) from by decide +kernel) rfl
theorem m1_55 : M1 55 ls st H Q = M1 58 ls (.int 640 :: st) H Q := w_con (show decode kb1 55 = .ok (.sipush 640, 3) from by decide +kernel) rfl (by decide)
theorem m1_58 : M1 58 ls (.int y :: .int x :: st) H Q = if y < x then M1 61 ls st H Q else M1 63 ls st H Q := w_icmpN (show decode kb1 58 = .ok (.if_icmp .le 5, 3) from by decide +kernel) (i_le x y) rfl
theorem m1_63 : M1 63 ls st H Q = M1 64 ls (.int 0 :: st) H Q := w_con (show decode kb1 63 = .ok (.iconst 0, 1) from by decide +kernel) rfl (by decide)
theorem m1_64i : M1 64 [l0, l1, l2, l3, .val (.int z), l5] ((.int v) :: st) H Q = M1 66 [l0, l1, l2, l3, .val (.int v), l5] st H Q := w_st (i := 4) (p := isI) (show decode kb1 64 = .ok (.istore 4, 2) from by decide +kernel) rfl rfl rfl rfl rfl rfl
theorem m1_66 : M1 66 [l0, l1, l2, l3, .val (.int v), l5] st H Q = M1 68 [l0, l1, l2, l3, .val (.int v), l5] (.int v :: st) H Q := w_x (show decode kb1 66 = .ok (.iload 4, 2) from by decide +kernel) rfl
theorem m1_68 : M1 68 [l0, l1, l2, .val (.int v), l4, l5] st H Q = M1 69 [l0, l1, l2, .val (.int v), l4, l5] (.int v :: st) H Q := w_x (show decode kb1 68 = .ok (.iload_n 3, 1) from by decide +kernel) rfl
theorem m1_69 : M1 69 ls (.int y :: .int x :: st) H Q = if x < y then M1 72 ls st H Q else M1 115 ls st H Q := w_icmpN (show decode kb1 69 = .ok (.if_icmp .ge 46, 3) from by decide +kernel) (i_ge x y) rfl
theorem m1_72 : M1 72 [.val (.ref r), l1, l2, l3, l4, l5] st H Q = M1 73 [.val (.ref r), l1, l2, l3, l4, l5] (.ref r :: st) H Q := w_x (show decode kb1 72 = .ok (.aload_n 0, 1) from by decide +kernel) rfl
theorem m1_73 : M1 73 ls (.ref b :: st) (put b pre s A L B post) Q = M1 76 ls (.int (s 22) :: st) (put b pre s A L B post) Q := w_get (show decode kb1 73 = .ok (.getfield 186, 3) from by decide +kernel) gf_186 put_o rfl
theorem m1_76 : M1 76 ls st H Q = M1 79 ls (.int 640 :: st) H Q := w_con (show decode kb1 76 = .ok (.sipush 640, 3) from by decide +kernel) rfl (by decide)
theorem m1_79 : M1 79 ls (.int y :: .int x :: st) H Q = if x < y then M1 82 ls st H Q else M1 115 ls st H Q := w_icmpN (show decode kb1 79 = .ok (.if_icmp .ge 36, 3) from by decide +kernel) (i_ge x y) rfl
theorem m1_82 : M1 82 [.val (.ref r), l1, l2, l3, l4, l5] st H Q = M1 83 [.val (.ref r), l1, l2, l3, l4, l5] (.ref r :: st) H Q := w_x (show decode kb1 82 = .ok (.aload_n 0, 1) from by decide +kernel) rfl
theorem m1_83 : M1 83 ls (.ref b :: st) (put b pre s A L B post) Q = M1 86 ls (.ref (b + 1) :: st) (put b pre s A L B post) Q := w_get (show decode kb1 83 = .ok (.getfield 73, 3) from by decide +kernel) gf_73 put_o rfl
theorem m1_86 : M1 86 [.val (.ref r), l1, l2, l3, l4, l5] st H Q = M1 87 [.val (.ref r), l1, l2, l3, l4, l5] (.ref r :: st) H Q := w_x (show decode kb1 86 = .ok (.aload_n 0, 1) from by decide +kernel) rfl
theorem m1_87 : M1 87 ls (.ref b :: st) (put b pre s A L B post) Q = M1 90 ls (.int (s 22) :: st) (put b pre s A L B post) Q := w_get (show decode kb1 87 = .ok (.getfield 186, 3) from by decide +kernel) gf_186 put_o rfl
theorem m1_90 : M1 90 [.val (.ref r), l1, l2, l3, l4, l5] st H Q = M1 91 [.val (.ref r), l1, l2, l3, l4, l5] (.ref r :: st) H Q := w_x (show decode kb1 90 = .ok (.aload_n 0, 1) from by decide +kernel) rfl
theorem m1_91 : M1 91 [l0, .val (.long J1), l2, l3, l4, l5] st H Q = M1 92 [l0, .val (.long J1), l2, l3, l4, l5] (.long J1 :: st) H Q := w_x (show decode kb1 91 = .ok (.lload_n 1, 1) from by decide +kernel) rfl
theorem m1_92 : M1 92 [l0, l1, l2, l3, .val (.int v), l5] st H Q = M1 94 [l0, l1, l2, l3, .val (.int v), l5] (.int v :: st) H Q := w_x (show decode kb1 92 = .ok (.iload 4, 2) from by decide +kernel) rfl
theorem m1_94 (a0 : Int64) (a1 : Int32) (u0 : Int32) (u1 : Nat) : M1 94 ls [.int a1, .long a0, .ref b, .int u0, .ref u1] (put b pre s A L B post) Q = M2 0 [.val (.ref b), .val (.long a0), .second, .val (.int a1)] [] (put b pre s A L B post) (fun v H1 => M1 97 ls (v.toList ++ [.int u0, .ref u1]) H1 Q) := w_virt (as := [.int a1, .long a0]) (rest := [.int u0, .ref u1]) (a := b) (show decode kb1 94 = .ok (.invokevirtual 192, 3) from by decide +kernel) cr1_192 put_o rfl rfl (Nat.le_of_ble_eq_true rfl) (by show 4 ≤ 4; omega) rfl
theorem m1_97 : M1 97 ls (.int x :: st) H Q = M1 98 ls (.int (x.toUInt32.toUInt16.toUInt32.toInt32) :: st) H Q := w_x (show decode kb1 97 = .ok (.i2c, 1) from by decide +kernel) rfl
theorem m1_98  : M1 98 ls (.int v :: .int j :: .ref (b + 1) :: st) (put b pre s A L B post) Q = (inB j (A 0) ∧ M1 99 ls st (put b pre s (ou A 0 (setA (A 0) j (nar .char v))) L B post) Q) := w_ist (show decode kb1 98 = .ok (.castore, 1) from by decide +kernel) rfl put_a0 (Nat.zero_le _) rfl put_w0
theorem m1_99 : M1 99 [.val (.ref r), l1, l2, l3, l4, l5] st H Q = M1 100 [.val (.ref r), l1, l2, l3, l4, l5] (.ref r :: st) H Q := w_x (show decode kb1 99 = .ok (.aload_n 0, 1) from by decide +kernel) rfl
theorem m1_100 : M1 100 ls ((.ref r) :: st) H Q = M1 101 ls ((.ref r) :: (.ref r) :: st) H Q := w_x (show decode kb1 100 = .ok (.dup, 1) from by decide +kernel) rfl
theorem m1_101 : M1 101 ls (.ref b :: st) (put b pre s A L B post) Q = M1 104 ls (.int (s 22) :: st) (put b pre s A L B post) Q := w_get (show decode kb1 101 = .ok (.getfield 186, 3) from by decide +kernel) gf_186 put_o rfl
theorem m1_104 : M1 104 ls st H Q = M1 105 ls (.int 1 :: st) H Q := w_con (show decode kb1 104 = .ok (.iconst 1, 1) from by decide +kernel) rfl (by decide)
theorem m1_105 : M1 105 ls (.int y :: .int x :: st) H Q = M1 106 ls (.int (x + y) :: st) H Q := w_x (show decode kb1 105 = .ok (.iadd, 1) from by decide +kernel) rfl
theorem pf1_186 : pfR tables_1 y1.cls y1.name 186 = some ("MacroAssembler", 56, .int) := by decide +kernel
theorem m1_106 : M1 106 ls (.int v :: .ref b :: st) (put b pre s A L B post) Q = M1 109 ls st (put b pre (ou s 22 v) A L B post) Q := w_put (show decode kb1 106 = .ok (.putfield 186, 3) from by decide +kernel) pf1_186 put_o (Nat.zero_le _) (by show 56 < 85; omega) rfl put_s22
theorem m1_109 : M1 109 [l0, l1, l2, l3, .val (.int v), l5] st H Q = M1 112 [l0, l1, l2, l3, .val (.int (v + 1)), l5] st H Q := w_iinc (show decode kb1 109 = .ok (.iinc 4 1, 3) from by decide +kernel) rfl (by decide) rfl
theorem m1_112 : M1 112 ls st H Q = M1 66 ls st H Q := w_x (show decode kb1 112 = .ok (.goto (-46), 3) from by decide +kernel) rfl
theorem m1_115 : M1 115 [l0, l1, l2, .val (.int v), l4, l5] st H Q = M1 116 [l0, l1, l2, .val (.int v), l4, l5] (.int v :: st) H Q := w_x (show decode kb1 115 = .ok (.iload_n 3, 1) from by decide +kernel) rfl
theorem m1_116 : M1 116 ls (.int x :: st) H Q = if 0 < x then M1 119 ls st H Q else M1 123 ls st H Q := w_ifN (show decode kb1 116 = .ok (.ifCond .le 7, 3) from by decide +kernel) (z_le x) rfl
theorem m1_119 : M1 119 [.val (.ref r), l1, l2, l3, l4, l5] st H Q = M1 120 [.val (.ref r), l1, l2, l3, l4, l5] (.ref r :: st) H Q := w_x (show decode kb1 119 = .ok (.aload_n 0, 1) from by decide +kernel) rfl
theorem cr1_189 : vR tables_1 dn y1 189 = some (true, y4, prog_1_method_20_code, 1, none, 0, 5) := pR_of (cR_of (by decide +kernel) rc_4 dn_4 dn_1 (sig := ⟨[], none⟩) (by decide +kernel) (by decide +kernel) rfl rfl) (by decide +kernel) (by decide +kernel)
theorem m1_120 : M1 120 ls [.ref b] (put b pre s A L B post) Q = M4 0 [.val (.ref b)] [] (put b pre s A L B post) (fun v H1 => M1 123 ls (v.toList ++ []) H1 Q) := w_virt (as := []) (rest := []) (a := b) (show decode kb1 120 = .ok (.invokevirtual 189, 3) from by decide +kernel) cr1_189 put_o rfl rfl (Nat.le_of_ble_eq_true rfl) (by show 1 ≤ 1; omega) rfl
theorem m1_123 : M1 123 [l0, l1, l2, .val (.int v), l4, l5] st H Q = M1 124 [l0, l1, l2, .val (.int v), l4, l5] (.int v :: st) H Q := w_x (show decode kb1 123 = .ok (.iload_n 3, 1) from by decide +kernel) rfl
theorem m1_124 : M1 124 ls (.int z :: st) H Q = Q (some (.int z)) H := w_iret (show decode kb1 124 = .ok (.ireturn, 1) from by decide +kernel) rfl
theorem m2_0 : M2 0 [l0, .val (.long J1), l2, l3] st H Q = M2 1 [l0, .val (.long J1), l2, l3] (.long J1 :: st) H Q := w_x (show decode kb2 0 = .ok (.lload_n 1, 1) from by decide +kernel) rfl
theorem m2_1 : M2 1 ls st H Q = M2 3 ls (.int 8 :: st) H Q := w_con (show decode kb2 1 = .ok (.bipush 8, 2) from by decide +kernel) rfl (by decide)
theorem m2_3 : M2 3 [l0, l1, l2, .val (.int v)] st H Q = M2 4 [l0, l1, l2, .val (.int v)] (.int v :: st) H Q := w_x (show decode kb2 3 = .ok (.iload_n 3, 1) from by decide +kernel) rfl
theorem m2_4 : M2 4 ls (.int y :: .int x :: st) H Q = M2 5 ls (.int (x * y) :: st) H Q := w_x (show decode kb2 4 = .ok (.imul, 1) from by decide +kernel) rfl
theorem m2_5 : M2 5 ls (.int y :: .long J1 :: st) H Q = M2 6 ls (.long (XT.ushrL J1 y) :: st) H Q := w_x (show decode kb2 5 = .ok (.lushr, 1) from by decide +kernel) rfl
theorem m2_6 : M2 6 ls st H Q = M2 9 ls (.long 255 :: st) H Q := w_ldc2 (show decode kb2 6 = .ok (.ldc2_w 266, 3) from by decide +kernel) (by decide +kernel)
theorem m2_9 : M2 9 ls (.long J2 :: .long J1 :: st) H Q = M2 10 ls (.long (J1 &&& J2) :: st) H Q := w_x (show decode kb2 9 = .ok (.land, 1) from by decide +kernel) rfl
theorem m2_10 : M2 10 ls (.long J1 :: st) H Q = M2 11 ls (.int J1.toInt32 :: st) H Q := w_x (show decode kb2 10 = .ok (.l2i, 1) from by decide +kernel) rfl
theorem m2_11 : M2 11 ls (.int z :: st) H Q = Q (some (.int z)) H := w_iret (show decode kb2 11 = .ok (.ireturn, 1) from by decide +kernel) rfl
theorem m3_0 : M3 0 [l0, .val (.int v)] st H Q = M3 1 [l0, .val (.int v)] (.int v :: st) H Q := w_x (show decode kb3 0 = .ok (.iload_n 1, 1) from by decide +kernel) rfl
theorem m3_1 : M3 1 ls st H Q = M3 3 ls (.int 10 :: st) H Q := w_con (show decode kb3 1 = .ok (.bipush 10, 2) from by decide +kernel) rfl (by decide)
theorem m3_3 : M3 3 ls (.int y :: .int x :: st) H Q = if x = y then M3 18 ls st H Q else M3 6 ls st H Q := w_icmp (show decode kb3 3 = .ok (.if_icmp .eq 15, 3) from by decide +kernel) (i_eq x y) rfl
theorem m3_6 : M3 6 [l0, .val (.int v)] st H Q = M3 7 [l0, .val (.int v)] (.int v :: st) H Q := w_x (show decode kb3 6 = .ok (.iload_n 1, 1) from by decide +kernel) rfl
theorem m3_7 : M3 7 ls st H Q = M3 9 ls (.int 32 :: st) H Q := w_con (show decode kb3 7 = .ok (.bipush 32, 2) from by decide +kernel) rfl (by decide)
theorem m3_9 : M3 9 ls (.int y :: .int x :: st) H Q = if x < y then M3 22 ls st H Q else M3 12 ls st H Q := w_icmp (show decode kb3 9 = .ok (.if_icmp .lt 13, 3) from by decide +kernel) (i_lt x y) rfl
theorem m3_12 : M3 12 [l0, .val (.int v)] st H Q = M3 13 [l0, .val (.int v)] (.int v :: st) H Q := w_x (show decode kb3 12 = .ok (.iload_n 1, 1) from by decide +kernel) rfl
theorem m3_13 : M3 13 ls st H Q = M3 15 ls (.int 126 :: st) H Q := w_con (show decode kb3 13 = .ok (.bipush 126, 2) from by decide +kernel) rfl (by decide)
theorem m3_15 : M3 15 ls (.int y :: .int x :: st) H Q = if y < x then M3 22 ls st H Q else M3 18 ls st H Q := w_icmp (show decode kb3 15 = .ok (.if_icmp .gt 7, 3) from by decide +kernel) (i_gt x y) rfl
theorem m3_18 : M3 18 ls st H Q = M3 19 ls (.int 1 :: st) H Q := w_con (show decode kb3 18 = .ok (.iconst 1, 1) from by decide +kernel) rfl (by decide)
theorem m3_19 : M3 19 ls st H Q = M3 23 ls st H Q := w_x (show decode kb3 19 = .ok (.goto 4, 3) from by decide +kernel) rfl
theorem m3_22 : M3 22 ls st H Q = M3 23 ls (.int 0 :: st) H Q := w_con (show decode kb3 22 = .ok (.iconst 0, 1) from by decide +kernel) rfl (by decide)
theorem m3_23 : M3 23 ls (.int z :: st) H Q = Q (some (.int (nar .boolean z))) H := w_iretN (show decode kb3 23 = .ok (.ireturn, 1) from by decide +kernel) rfl (by simp)
theorem m4_0 : M4 0 [.val (.ref r)] st H Q = M4 1 [.val (.ref r)] (.ref r :: st) H Q := w_x (show decode kb4 0 = .ok (.aload_n 0, 1) from by decide +kernel) rfl
theorem m4_1 : M4 1 ls st H Q = M4 2 ls (.int 0 :: st) H Q := w_con (show decode kb4 1 = .ok (.iconst 0, 1) from by decide +kernel) rfl (by decide)
theorem pf4_221 : pfR tables_1 y4.cls y4.name 221 = some ("MacroAssembler", 57, .int) := by decide +kernel
theorem m4_2 : M4 2 ls (.int v :: .ref b :: st) (put b pre s A L B post) Q = M4 5 ls st (put b pre (ou s 24 v) A L B post) Q := w_put (show decode kb4 2 = .ok (.putfield 221, 3) from by decide +kernel) pf4_221 put_o (Nat.zero_le _) (by show 57 < 85; omega) rfl put_s24
theorem m4_5 : M4 5 [.val (.ref r)] st H Q = M4 6 [.val (.ref r)] (.ref r :: st) H Q := w_x (show decode kb4 5 = .ok (.aload_n 0, 1) from by decide +kernel) rfl
theorem m4_6 : M4 6 ls st H Q = M4 7 ls (.int 0 :: st) H Q := w_con (show decode kb4 6 = .ok (.iconst 0, 1) from by decide +kernel) rfl (by decide)
theorem pf4_227 : pfR tables_1 y4.cls y4.name 227 = some ("MacroAssembler", 58, .int) := by decide +kernel
theorem m4_7 : M4 7 ls (.int v :: .ref b :: st) (put b pre s A L B post) Q = M4 10 ls st (put b pre (ou s 26 v) A L B post) Q := w_put (show decode kb4 7 = .ok (.putfield 227, 3) from by decide +kernel) pf4_227 put_o (Nat.zero_le _) (by show 58 < 85; omega) rfl put_s26
theorem m4_10 : M4 10 [.val (.ref r)] st H Q = M4 11 [.val (.ref r)] (.ref r :: st) H Q := w_x (show decode kb4 10 = .ok (.aload_n 0, 1) from by decide +kernel) rfl
theorem m4_11 : M4 11 ls st H Q = M4 12 ls (.int 0 :: st) H Q := w_con (show decode kb4 11 = .ok (.iconst 0, 1) from by decide +kernel) rfl (by decide)
theorem pf4_230 : pfR tables_1 y4.cls y4.name 230 = some ("MacroAssembler", 59, .int) := by decide +kernel
theorem m4_12 : M4 12 ls (.int v :: .ref b :: st) (put b pre s A L B post) Q = M4 15 ls st (put b pre (ou s 28 v) A L B post) Q := w_put (show decode kb4 12 = .ok (.putfield 230, 3) from by decide +kernel) pf4_230 put_o (Nat.zero_le _) (by show 59 < 85; omega) rfl put_s28
theorem m4_15 : M4 15 [.val (.ref r)] st H Q = M4 16 [.val (.ref r)] (.ref r :: st) H Q := w_x (show decode kb4 15 = .ok (.aload_n 0, 1) from by decide +kernel) rfl
theorem m4_16 : M4 16 ls st H Q = M4 17 ls (.int 0 :: st) H Q := w_con (show decode kb4 16 = .ok (.iconst 0, 1) from by decide +kernel) rfl (by decide)
theorem pf4_233 : pfR tables_1 y4.cls y4.name 233 = some ("MacroAssembler", 60, .int) := by decide +kernel
theorem m4_17 : M4 17 ls (.int v :: .ref b :: st) (put b pre s A L B post) Q = M4 20 ls st (put b pre (ou s 27 v) A L B post) Q := w_put (show decode kb4 17 = .ok (.putfield 233, 3) from by decide +kernel) pf4_233 put_o (Nat.zero_le _) (by show 60 < 85; omega) rfl put_s27
theorem m4_20 : M4 20 [.val (.ref r)] st H Q = M4 21 [.val (.ref r)] (.ref r :: st) H Q := w_x (show decode kb4 20 = .ok (.aload_n 0, 1) from by decide +kernel) rfl
theorem m4_21 : M4 21 ls st H Q = M4 22 ls (.int 0 :: st) H Q := w_con (show decode kb4 21 = .ok (.iconst 0, 1) from by decide +kernel) rfl (by decide)
theorem pf4_224 : pfR tables_1 y4.cls y4.name 224 = some ("MacroAssembler", 61, .int) := by decide +kernel
theorem m4_22 : M4 22 ls (.int v :: .ref b :: st) (put b pre s A L B post) Q = M4 25 ls st (put b pre (ou s 25 v) A L B post) Q := w_put (show decode kb4 22 = .ok (.putfield 224, 3) from by decide +kernel) pf4_224 put_o (Nat.zero_le _) (by show 61 < 85; omega) rfl put_s25
theorem m4_25 : M4 25 [.val (.ref r)] st H Q = M4 26 [.val (.ref r)] (.ref r :: st) H Q := w_x (show decode kb4 25 = .ok (.aload_n 0, 1) from by decide +kernel) rfl
theorem m4_26 : M4 26 ls st H Q = M4 27 ls (.int 0 :: st) H Q := w_con (show decode kb4 26 = .ok (.iconst 0, 1) from by decide +kernel) rfl (by decide)
theorem pf4_236 : pfR tables_1 y4.cls y4.name 236 = some ("MacroAssembler", 62, .int) := by decide +kernel
theorem m4_27 : M4 27 ls (.int v :: .ref b :: st) (put b pre s A L B post) Q = M4 30 ls st (put b pre (ou s 29 v) A L B post) Q := w_put (show decode kb4 27 = .ok (.putfield 236, 3) from by decide +kernel) pf4_236 put_o (Nat.zero_le _) (by show 62 < 85; omega) rfl put_s29
theorem m4_30 : M4 30 ls [] H Q = Q none H := w_vret (show decode kb4 30 = .ok (.return_, 1) from by decide +kernel) rfl
theorem m5_0 : M5 0 [.val (.ref r), l1] st H Q = M5 1 [.val (.ref r), l1] (.ref r :: st) H Q := w_x (show decode kb5 0 = .ok (.aload_n 0, 1) from by decide +kernel) rfl
theorem cr5_196 : vR tables_1 dn y5 196 = some (true, y6, prog_1_method_38_code, 1, none, 0, 81) := pR_of (cR_of (by decide +kernel) rc_6 dn_6 dn_5 (sig := ⟨[], none⟩) (by decide +kernel) (by decide +kernel) rfl rfl) (by decide +kernel) (by decide +kernel)
theorem m5_1 : M5 1 ls [.ref b] (put b pre s A L B post) Q = M6 0 [.val (.ref b)] [] (put b pre s A L B post) (fun v H1 => M5 4 ls (v.toList ++ []) H1 Q) := w_virt (as := []) (rest := []) (a := b) (show decode kb5 1 = .ok (.invokevirtual 196, 3) from by decide +kernel) cr5_196 put_o rfl rfl (Nat.le_of_ble_eq_true rfl) (by show 1 ≤ 1; omega) rfl
theorem m5_4 : M5 4 ls st H Q = M5 5 ls (.int 0 :: st) H Q := w_con (show decode kb5 4 = .ok (.iconst 0, 1) from by decide +kernel) rfl (by decide)
theorem m5_5u : M5 5 [l0, .unset] ((.int v) :: st) H Q = M5 6 [l0, .val (.int v)] st H Q := w_st (i := 1) (p := isI) (show decode kb5 5 = .ok (.istore_n 1, 1) from by decide +kernel) rfl rfl rfl rfl rfl rfl
theorem m5_6 : M5 6 [l0, .val (.int v)] st H Q = M5 7 [l0, .val (.int v)] (.int v :: st) H Q := w_x (show decode kb5 6 = .ok (.iload_n 1, 1) from by decide +kernel) rfl
theorem m5_7 : M5 7 ls st H Q = M5 10 ls (.int 4096 :: st) H Q := w_con (show decode kb5 7 = .ok (.sipush 4096, 3) from by decide +kernel) rfl (by decide)
theorem m5_10 : M5 10 ls (.int y :: .int x :: st) H Q = if x < y then M5 13 ls st H Q else M5 37 ls st H Q := w_icmpN (show decode kb5 10 = .ok (.if_icmp .ge 27, 3) from by decide +kernel) (i_ge x y) rfl
theorem m5_13 : M5 13 [.val (.ref r), l1] st H Q = M5 14 [.val (.ref r), l1] (.ref r :: st) H Q := w_x (show decode kb5 13 = .ok (.aload_n 0, 1) from by decide +kernel) rfl
theorem m5_14 : M5 14 ls (.ref b :: st) (put b pre s A L B post) Q = M5 17 ls (.int (s 44) :: st) (put b pre s A L B post) Q := w_get (show decode kb5 14 = .ok (.getfield 199, 3) from by decide +kernel) gf_199 put_o rfl
theorem m5_17 : M5 17 ls (.int x :: st) H Q = if x = 0 then M5 20 ls st H Q else M5 37 ls st H Q := w_ifN (show decode kb5 17 = .ok (.ifCond .ne 20, 3) from by decide +kernel) (z_ne x) rfl
theorem m5_20 : M5 20 [.val (.ref r), l1] st H Q = M5 21 [.val (.ref r), l1] (.ref r :: st) H Q := w_x (show decode kb5 20 = .ok (.aload_n 0, 1) from by decide +kernel) rfl
theorem m5_21 : M5 21 ls (.ref b :: st) (put b pre s A L B post) Q = M5 24 ls (.int (s 45) :: st) (put b pre s A L B post) Q := w_get (show decode kb5 21 = .ok (.getfield 203, 3) from by decide +kernel) gf_203 put_o rfl
theorem m5_24 : M5 24 ls (.int x :: st) H Q = if x = 0 then M5 27 ls st H Q else M5 37 ls st H Q := w_ifN (show decode kb5 24 = .ok (.ifCond .ne 13, 3) from by decide +kernel) (z_ne x) rfl
theorem m5_27 : M5 27 [.val (.ref r), l1] st H Q = M5 28 [.val (.ref r), l1] (.ref r :: st) H Q := w_x (show decode kb5 27 = .ok (.aload_n 0, 1) from by decide +kernel) rfl
theorem cr5_206 : vR tables_1 dn y5 206 = some (true, y9, prog_1_method_41_code, 2, none, 0, 0) := pR_of (cR_of (by decide +kernel) rc_9 dn_9 dn_5 (sig := ⟨[], none⟩) (by decide +kernel) (by decide +kernel) rfl rfl) (by decide +kernel) (by decide +kernel)
theorem m5_28 : M5 28 ls [.ref b] (put b pre s A L B post) Q = M9 0 [.val (.ref b), .unset] [] (put b pre s A L B post) (fun v H1 => M5 31 ls (v.toList ++ []) H1 Q) := w_virt (as := []) (rest := []) (a := b) (show decode kb5 28 = .ok (.invokevirtual 206, 3) from by decide +kernel) cr5_206 put_o rfl rfl (Nat.le_of_ble_eq_true rfl) (by show 1 ≤ 2; omega) rfl
theorem m5_31 : M5 31 [l0, .val (.int v)] st H Q = M5 34 [l0, .val (.int (v + 1))] st H Q := w_iinc (show decode kb5 31 = .ok (.iinc 1 1, 3) from by decide +kernel) rfl (by decide) rfl
theorem m5_34 : M5 34 ls st H Q = M5 6 ls st H Q := w_x (show decode kb5 34 = .ok (.goto (-28), 3) from by decide +kernel) rfl
theorem m5_37 : M5 37 [.val (.ref r), l1] st H Q = M5 38 [.val (.ref r), l1] (.ref r :: st) H Q := w_x (show decode kb5 37 = .ok (.aload_n 0, 1) from by decide +kernel) rfl
theorem m5_38 : M5 38 ls (.ref b :: st) (put b pre s A L B post) Q = M5 41 ls (.int (s 44) :: st) (put b pre s A L B post) Q := w_get (show decode kb5 38 = .ok (.getfield 199, 3) from by decide +kernel) gf_199 put_o rfl
theorem m5_41 : M5 41 ls (.int x :: st) H Q = if x = 0 then M5 44 ls st H Q else M5 65 ls st H Q := w_ifN (show decode kb5 41 = .ok (.ifCond .ne 24, 3) from by decide +kernel) (z_ne x) rfl
theorem m5_44 : M5 44 [.val (.ref r), l1] st H Q = M5 45 [.val (.ref r), l1] (.ref r :: st) H Q := w_x (show decode kb5 44 = .ok (.aload_n 0, 1) from by decide +kernel) rfl
theorem m5_45 : M5 45 ls (.ref b :: st) (put b pre s A L B post) Q = M5 48 ls (.int (s 45) :: st) (put b pre s A L B post) Q := w_get (show decode kb5 45 = .ok (.getfield 203, 3) from by decide +kernel) gf_203 put_o rfl
theorem m5_48 : M5 48 ls (.int x :: st) H Q = if x = 0 then M5 51 ls st H Q else M5 65 ls st H Q := w_ifN (show decode kb5 48 = .ok (.ifCond .ne 17, 3) from by decide +kernel) (z_ne x) rfl
theorem m5_65 : M5 65 [.val (.ref r), l1] st H Q = M5 66 [.val (.ref r), l1] (.ref r :: st) H Q := w_x (show decode kb5 65 = .ok (.aload_n 0, 1) from by decide +kernel) rfl
theorem m5_66 : M5 66 ls (.ref b :: st) (put b pre s A L B post) Q = M5 69 ls (.int (s 44) :: st) (put b pre s A L B post) Q := w_get (show decode kb5 66 = .ok (.getfield 199, 3) from by decide +kernel) gf_199 put_o rfl
theorem m5_69 : M5 69 ls (.int x :: st) H Q = if x = 0 then M5 72 ls st H Q else M5 76 ls st H Q := w_ifN (show decode kb5 69 = .ok (.ifCond .ne 7, 3) from by decide +kernel) (z_ne x) rfl
theorem m5_72 : M5 72 [.val (.ref r), l1] st H Q = M5 73 [.val (.ref r), l1] (.ref r :: st) H Q := w_x (show decode kb5 72 = .ok (.aload_n 0, 1) from by decide +kernel) rfl
theorem cr5_218 : vR tables_1 dn y5 218 = some (true, y29, prog_1_method_82_code, 5, none, 0, 91) := pR_of (cR_of (by decide +kernel) rc_29 dn_29 dn_5 (sig := ⟨[], none⟩) (by decide +kernel) (by decide +kernel) rfl rfl) (by decide +kernel) (by decide +kernel)
theorem m5_73 : M5 73 ls [.ref b] (put b pre s A L B post) Q = M29 0 [.val (.ref b), .unset, .unset, .unset, .unset] [] (put b pre s A L B post) (fun v H1 => M5 76 ls (v.toList ++ []) H1 Q) := w_virt (as := []) (rest := []) (a := b) (show decode kb5 73 = .ok (.invokevirtual 218, 3) from by decide +kernel) cr5_218 put_o rfl rfl (Nat.le_of_ble_eq_true rfl) (by show 1 ≤ 5; omega) rfl
theorem m5_76 : M5 76 [.val (.ref r), l1] st H Q = M5 77 [.val (.ref r), l1] (.ref r :: st) H Q := w_x (show decode kb5 76 = .ok (.aload_n 0, 1) from by decide +kernel) rfl
theorem m5_77 : M5 77 ls (.ref b :: st) (put b pre s A L B post) Q = M5 80 ls (.int (s 44) :: st) (put b pre s A L B post) Q := w_get (show decode kb5 77 = .ok (.getfield 199, 3) from by decide +kernel) gf_199 put_o rfl
theorem m5_80 : M5 80 ls (.int x :: st) H Q = if x = 0 then M5 119 ls st H Q else M5 83 ls st H Q := w_if (show decode kb5 80 = .ok (.ifCond .eq 39, 3) from by decide +kernel) (z_eq x) rfl
theorem m5_119 : M5 119 [.val (.ref r), l1] st H Q = M5 120 [.val (.ref r), l1] (.ref r :: st) H Q := w_x (show decode kb5 119 = .ok (.aload_n 0, 1) from by decide +kernel) rfl
theorem m5_120 : M5 120 ls st H Q = M5 121 ls (.int 1 :: st) H Q := w_con (show decode kb5 120 = .ok (.iconst 1, 1) from by decide +kernel) rfl (by decide)
theorem pf5_221 : pfR tables_1 y5.cls y5.name 221 = some ("MacroAssembler", 57, .int) := by decide +kernel
theorem m5_121 : M5 121 ls (.int v :: .ref b :: st) (put b pre s A L B post) Q = M5 124 ls st (put b pre (ou s 24 v) A L B post) Q := w_put (show decode kb5 121 = .ok (.putfield 221, 3) from by decide +kernel) pf5_221 put_o (Nat.zero_le _) (by show 57 < 85; omega) rfl put_s24
theorem m5_124 : M5 124 [.val (.ref r), l1] st H Q = M5 125 [.val (.ref r), l1] (.ref r :: st) H Q := w_x (show decode kb5 124 = .ok (.aload_n 0, 1) from by decide +kernel) rfl
theorem m5_125 : M5 125 ls st H Q = M5 126 ls (.int 0 :: st) H Q := w_con (show decode kb5 125 = .ok (.iconst 0, 1) from by decide +kernel) rfl (by decide)
theorem pf5_224 : pfR tables_1 y5.cls y5.name 224 = some ("MacroAssembler", 61, .int) := by decide +kernel
theorem m5_126 : M5 126 ls (.int v :: .ref b :: st) (put b pre s A L B post) Q = M5 129 ls st (put b pre (ou s 25 v) A L B post) Q := w_put (show decode kb5 126 = .ok (.putfield 224, 3) from by decide +kernel) pf5_224 put_o (Nat.zero_le _) (by show 61 < 85; omega) rfl put_s25
theorem m5_129 : M5 129 [.val (.ref r), l1] st H Q = M5 130 [.val (.ref r), l1] (.ref r :: st) H Q := w_x (show decode kb5 129 = .ok (.aload_n 0, 1) from by decide +kernel) rfl
theorem m5_130 : M5 130 [.val (.ref r), l1] st H Q = M5 131 [.val (.ref r), l1] (.ref r :: st) H Q := w_x (show decode kb5 130 = .ok (.aload_n 0, 1) from by decide +kernel) rfl
theorem m5_131 : M5 131 ls (.ref b :: st) (put b pre s A L B post) Q = M5 134 ls (.int (s 41) :: st) (put b pre s A L B post) Q := w_get (show decode kb5 131 = .ok (.getfield 239, 3) from by decide +kernel) gf_239 put_o rfl
theorem pf5_227 : pfR tables_1 y5.cls y5.name 227 = some ("MacroAssembler", 58, .int) := by decide +kernel
theorem m5_134 : M5 134 ls (.int v :: .ref b :: st) (put b pre s A L B post) Q = M5 137 ls st (put b pre (ou s 26 v) A L B post) Q := w_put (show decode kb5 134 = .ok (.putfield 227, 3) from by decide +kernel) pf5_227 put_o (Nat.zero_le _) (by show 58 < 85; omega) rfl put_s26
theorem m5_137 : M5 137 [.val (.ref r), l1] st H Q = M5 138 [.val (.ref r), l1] (.ref r :: st) H Q := w_x (show decode kb5 137 = .ok (.aload_n 0, 1) from by decide +kernel) rfl
theorem m5_138 : M5 138 [.val (.ref r), l1] st H Q = M5 139 [.val (.ref r), l1] (.ref r :: st) H Q := w_x (show decode kb5 138 = .ok (.aload_n 0, 1) from by decide +kernel) rfl
theorem m5_139 : M5 139 ls (.ref b :: st) (put b pre s A L B post) Q = M5 142 ls (.int (s 42) :: st) (put b pre s A L B post) Q := w_get (show decode kb5 139 = .ok (.getfield 242, 3) from by decide +kernel) gf_242 put_o rfl
theorem pf5_233 : pfR tables_1 y5.cls y5.name 233 = some ("MacroAssembler", 60, .int) := by decide +kernel
theorem m5_142 : M5 142 ls (.int v :: .ref b :: st) (put b pre s A L B post) Q = M5 145 ls st (put b pre (ou s 27 v) A L B post) Q := w_put (show decode kb5 142 = .ok (.putfield 233, 3) from by decide +kernel) pf5_233 put_o (Nat.zero_le _) (by show 60 < 85; omega) rfl put_s27
theorem m5_145 : M5 145 [.val (.ref r), l1] st H Q = M5 146 [.val (.ref r), l1] (.ref r :: st) H Q := w_x (show decode kb5 145 = .ok (.aload_n 0, 1) from by decide +kernel) rfl
theorem cr5_245 : vR tables_1 dn y5 245 = some (true, y30, prog_1_method_87_code, 3, none, 0, 29) := pR_of (cR_of (by decide +kernel) rc_30 dn_30 dn_5 (sig := ⟨[], none⟩) (by decide +kernel) (by decide +kernel) rfl rfl) (by decide +kernel) (by decide +kernel)
theorem m5_146 : M5 146 ls [.ref b] (put b pre s A L B post) Q = M30 0 [.val (.ref b), .unset, .unset] [] (put b pre s A L B post) (fun v H1 => M5 149 ls (v.toList ++ []) H1 Q) := w_virt (as := []) (rest := []) (a := b) (show decode kb5 146 = .ok (.invokevirtual 245, 3) from by decide +kernel) cr5_245 put_o rfl rfl (Nat.le_of_ble_eq_true rfl) (by show 1 ≤ 3; omega) rfl
theorem m5_149 : M5 149 [.val (.ref r), l1] st H Q = M5 150 [.val (.ref r), l1] (.ref r :: st) H Q := w_x (show decode kb5 149 = .ok (.aload_n 0, 1) from by decide +kernel) rfl
theorem m5_150 : M5 150 ls (.ref b :: st) (put b pre s A L B post) Q = M5 153 ls (.int (s 24) :: st) (put b pre s A L B post) Q := w_get (show decode kb5 150 = .ok (.getfield 221, 3) from by decide +kernel) gf_221 put_o rfl
theorem m5_153 : M5 153 ls (.int z :: st) H Q = Q (some (.int z)) H := w_iret (show decode kb5 153 = .ok (.ireturn, 1) from by decide +kernel) rfl
theorem m6_0 : M6 0 [.val (.ref r)] st H Q = M6 1 [.val (.ref r)] (.ref r :: st) H Q := w_x (show decode kb6 0 = .ok (.aload_n 0, 1) from by decide +kernel) rfl
theorem m6_1 : M6 1 ls st H Q = M6 2 ls (.int 0 :: st) H Q := w_con (show decode kb6 1 = .ok (.iconst 0, 1) from by decide +kernel) rfl (by decide)
theorem pf6_230 : pfR tables_1 y6.cls y6.name 230 = some ("MacroAssembler", 59, .int) := by decide +kernel
theorem m6_2 : M6 2 ls (.int v :: .ref b :: st) (put b pre s A L B post) Q = M6 5 ls st (put b pre (ou s 28 v) A L B post) Q := w_put (show decode kb6 2 = .ok (.putfield 230, 3) from by decide +kernel) pf6_230 put_o (Nat.zero_le _) (by show 59 < 85; omega) rfl put_s28
theorem m6_5 : M6 5 [.val (.ref r)] st H Q = M6 6 [.val (.ref r)] (.ref r :: st) H Q := w_x (show decode kb6 5 = .ok (.aload_n 0, 1) from by decide +kernel) rfl
theorem m6_6 : M6 6 ls st H Q = M6 7 ls (.int 0 :: st) H Q := w_con (show decode kb6 6 = .ok (.iconst 0, 1) from by decide +kernel) rfl (by decide)
theorem pf6_310 : pfR tables_1 y6.cls y6.name 310 = some ("MacroAssembler", 63, .int) := by decide +kernel
theorem m6_7 : M6 7 ls (.int v :: .ref b :: st) (put b pre s A L B post) Q = M6 10 ls st (put b pre (ou s 31 v) A L B post) Q := w_put (show decode kb6 7 = .ok (.putfield 310, 3) from by decide +kernel) pf6_310 put_o (Nat.zero_le _) (by show 63 < 85; omega) rfl put_s31
theorem m6_10 : M6 10 [.val (.ref r)] st H Q = M6 11 [.val (.ref r)] (.ref r :: st) H Q := w_x (show decode kb6 10 = .ok (.aload_n 0, 1) from by decide +kernel) rfl
theorem m6_11 : M6 11 ls st H Q = M6 12 ls (.int 0 :: st) H Q := w_con (show decode kb6 11 = .ok (.iconst 0, 1) from by decide +kernel) rfl (by decide)
theorem pf6_316 : pfR tables_1 y6.cls y6.name 316 = some ("MacroAssembler", 64, .int) := by decide +kernel
theorem m6_12 : M6 12 ls (.int v :: .ref b :: st) (put b pre s A L B post) Q = M6 15 ls st (put b pre (ou s 33 v) A L B post) Q := w_put (show decode kb6 12 = .ok (.putfield 316, 3) from by decide +kernel) pf6_316 put_o (Nat.zero_le _) (by show 64 < 85; omega) rfl put_s33
theorem m6_15 : M6 15 [.val (.ref r)] st H Q = M6 16 [.val (.ref r)] (.ref r :: st) H Q := w_x (show decode kb6 15 = .ok (.aload_n 0, 1) from by decide +kernel) rfl
theorem m6_16 : M6 16 ls st H Q = M6 17 ls (.int 0 :: st) H Q := w_con (show decode kb6 16 = .ok (.iconst 0, 1) from by decide +kernel) rfl (by decide)
theorem pf6_239 : pfR tables_1 y6.cls y6.name 239 = some ("MacroAssembler", 65, .int) := by decide +kernel
theorem m6_17 : M6 17 ls (.int v :: .ref b :: st) (put b pre s A L B post) Q = M6 20 ls st (put b pre (ou s 41 v) A L B post) Q := w_put (show decode kb6 17 = .ok (.putfield 239, 3) from by decide +kernel) pf6_239 put_o (Nat.zero_le _) (by show 65 < 85; omega) rfl put_s41
theorem m6_20 : M6 20 [.val (.ref r)] st H Q = M6 21 [.val (.ref r)] (.ref r :: st) H Q := w_x (show decode kb6 20 = .ok (.aload_n 0, 1) from by decide +kernel) rfl
theorem m6_21 : M6 21 ls st H Q = M6 22 ls (.int 0 :: st) H Q := w_con (show decode kb6 21 = .ok (.iconst 0, 1) from by decide +kernel) rfl (by decide)
theorem pf6_242 : pfR tables_1 y6.cls y6.name 242 = some ("MacroAssembler", 66, .int) := by decide +kernel
theorem m6_22 : M6 22 ls (.int v :: .ref b :: st) (put b pre s A L B post) Q = M6 25 ls st (put b pre (ou s 42 v) A L B post) Q := w_put (show decode kb6 22 = .ok (.putfield 242, 3) from by decide +kernel) pf6_242 put_o (Nat.zero_le _) (by show 66 < 85; omega) rfl put_s42
theorem m6_25 : M6 25 [.val (.ref r)] st H Q = M6 26 [.val (.ref r)] (.ref r :: st) H Q := w_x (show decode kb6 25 = .ok (.aload_n 0, 1) from by decide +kernel) rfl
theorem m6_26 : M6 26 ls st H Q = M6 27 ls (.int 0 :: st) H Q := w_con (show decode kb6 26 = .ok (.iconst 0, 1) from by decide +kernel) rfl (by decide)
theorem pf6_319 : pfR tables_1 y6.cls y6.name 319 = some ("MacroAssembler", 67, .int) := by decide +kernel
theorem m6_27 : M6 27 ls (.int v :: .ref b :: st) (put b pre s A L B post) Q = M6 30 ls st (put b pre (ou s 40 v) A L B post) Q := w_put (show decode kb6 27 = .ok (.putfield 319, 3) from by decide +kernel) pf6_319 put_o (Nat.zero_le _) (by show 67 < 85; omega) rfl put_s40
theorem m6_30 : M6 30 [.val (.ref r)] st H Q = M6 31 [.val (.ref r)] (.ref r :: st) H Q := w_x (show decode kb6 30 = .ok (.aload_n 0, 1) from by decide +kernel) rfl
theorem m6_31 : M6 31 ls st H Q = M6 32 ls (.int 0 :: st) H Q := w_con (show decode kb6 31 = .ok (.iconst 0, 1) from by decide +kernel) rfl (by decide)
theorem pf6_322 : pfR tables_1 y6.cls y6.name 322 = some ("MacroAssembler", 68, .int) := by decide +kernel
theorem m6_32 : M6 32 ls (.int v :: .ref b :: st) (put b pre s A L B post) Q = M6 35 ls st (put b pre (ou s 54 v) A L B post) Q := w_put (show decode kb6 32 = .ok (.putfield 322, 3) from by decide +kernel) pf6_322 put_o (Nat.zero_le _) (by show 68 < 85; omega) rfl put_s54
theorem m6_35 : M6 35 [.val (.ref r)] st H Q = M6 36 [.val (.ref r)] (.ref r :: st) H Q := w_x (show decode kb6 35 = .ok (.aload_n 0, 1) from by decide +kernel) rfl
theorem m6_36 : M6 36 ls st H Q = M6 37 ls (.int 0 :: st) H Q := w_con (show decode kb6 36 = .ok (.iconst 0, 1) from by decide +kernel) rfl (by decide)
theorem pf6_325 : pfR tables_1 y6.cls y6.name 325 = some ("MacroAssembler", 69, .int) := by decide +kernel
theorem m6_37 : M6 37 ls (.int v :: .ref b :: st) (put b pre s A L B post) Q = M6 40 ls st (put b pre (ou s 37 v) A L B post) Q := w_put (show decode kb6 37 = .ok (.putfield 325, 3) from by decide +kernel) pf6_325 put_o (Nat.zero_le _) (by show 69 < 85; omega) rfl put_s37
theorem m6_40 : M6 40 [.val (.ref r)] st H Q = M6 41 [.val (.ref r)] (.ref r :: st) H Q := w_x (show decode kb6 40 = .ok (.aload_n 0, 1) from by decide +kernel) rfl
theorem m6_41 : M6 41 ls st H Q = M6 42 ls (.int 0 :: st) H Q := w_con (show decode kb6 41 = .ok (.iconst 0, 1) from by decide +kernel) rfl (by decide)
theorem pf6_328 : pfR tables_1 y6.cls y6.name 328 = some ("MacroAssembler", 70, .int) := by decide +kernel
theorem m6_42 : M6 42 ls (.int v :: .ref b :: st) (put b pre s A L B post) Q = M6 45 ls st (put b pre (ou s 38 v) A L B post) Q := w_put (show decode kb6 42 = .ok (.putfield 328, 3) from by decide +kernel) pf6_328 put_o (Nat.zero_le _) (by show 70 < 85; omega) rfl put_s38
theorem m6_45 : M6 45 [.val (.ref r)] st H Q = M6 46 [.val (.ref r)] (.ref r :: st) H Q := w_x (show decode kb6 45 = .ok (.aload_n 0, 1) from by decide +kernel) rfl
theorem m6_46 : M6 46 ls st H Q = M6 47 ls (.int 0 :: st) H Q := w_con (show decode kb6 46 = .ok (.iconst 0, 1) from by decide +kernel) rfl (by decide)
theorem pf6_331 : pfR tables_1 y6.cls y6.name 331 = some ("MacroAssembler", 71, .int) := by decide +kernel
theorem m6_47 : M6 47 ls (.int v :: .ref b :: st) (put b pre s A L B post) Q = M6 50 ls st (put b pre (ou s 39 v) A L B post) Q := w_put (show decode kb6 47 = .ok (.putfield 331, 3) from by decide +kernel) pf6_331 put_o (Nat.zero_le _) (by show 71 < 85; omega) rfl put_s39
theorem m6_50 : M6 50 [.val (.ref r)] st H Q = M6 51 [.val (.ref r)] (.ref r :: st) H Q := w_x (show decode kb6 50 = .ok (.aload_n 0, 1) from by decide +kernel) rfl
theorem m6_51 : M6 51 ls st H Q = M6 52 ls (.int 0 :: st) H Q := w_con (show decode kb6 51 = .ok (.iconst 0, 1) from by decide +kernel) rfl (by decide)
theorem pf6_334 : pfR tables_1 y6.cls y6.name 334 = some ("MacroAssembler", 72, .int) := by decide +kernel
theorem m6_52 : M6 52 ls (.int v :: .ref b :: st) (put b pre s A L B post) Q = M6 55 ls st (put b pre (ou s 32 v) A L B post) Q := w_put (show decode kb6 52 = .ok (.putfield 334, 3) from by decide +kernel) pf6_334 put_o (Nat.zero_le _) (by show 72 < 85; omega) rfl put_s32
theorem m6_55 : M6 55 [.val (.ref r)] st H Q = M6 56 [.val (.ref r)] (.ref r :: st) H Q := w_x (show decode kb6 55 = .ok (.aload_n 0, 1) from by decide +kernel) rfl
theorem m6_56 : M6 56 ls st H Q = M6 57 ls (.int 0 :: st) H Q := w_con (show decode kb6 56 = .ok (.iconst 0, 1) from by decide +kernel) rfl (by decide)
theorem pf6_199 : pfR tables_1 y6.cls y6.name 199 = some ("MacroAssembler", 73, .boolean) := by decide +kernel
theorem m6_57 : M6 57 ls (.int v :: .ref b :: st) (put b pre s A L B post) Q = M6 60 ls st (put b pre (ou s 44 (nar .boolean v)) A L B post) Q := w_put (show decode kb6 57 = .ok (.putfield 199, 3) from by decide +kernel) pf6_199 put_o (Nat.zero_le _) (by show 73 < 85; omega) rfl put_s44
theorem m6_60 : M6 60 [.val (.ref r)] st H Q = M6 61 [.val (.ref r)] (.ref r :: st) H Q := w_x (show decode kb6 60 = .ok (.aload_n 0, 1) from by decide +kernel) rfl
theorem m6_61 : M6 61 ls st H Q = M6 62 ls (.int 0 :: st) H Q := w_con (show decode kb6 61 = .ok (.iconst 0, 1) from by decide +kernel) rfl (by decide)
theorem pf6_203 : pfR tables_1 y6.cls y6.name 203 = some ("MacroAssembler", 74, .boolean) := by decide +kernel
theorem m6_62 : M6 62 ls (.int v :: .ref b :: st) (put b pre s A L B post) Q = M6 65 ls st (put b pre (ou s 45 (nar .boolean v)) A L B post) Q := w_put (show decode kb6 62 = .ok (.putfield 203, 3) from by decide +kernel) pf6_203 put_o (Nat.zero_le _) (by show 74 < 85; omega) rfl put_s45
theorem m6_65 : M6 65 [.val (.ref r)] st H Q = M6 66 [.val (.ref r)] (.ref r :: st) H Q := w_x (show decode kb6 65 = .ok (.aload_n 0, 1) from by decide +kernel) rfl
theorem m6_66 : M6 66 ls st H Q = M6 67 ls (.int 0 :: st) H Q := w_con (show decode kb6 66 = .ok (.iconst 0, 1) from by decide +kernel) rfl (by decide)
theorem pf6_212 : pfR tables_1 y6.cls y6.name 212 = some ("MacroAssembler", 75, .int) := by decide +kernel
theorem m6_67 : M6 67 ls (.int v :: .ref b :: st) (put b pre s A L B post) Q = M6 70 ls st (put b pre (ou s 43 v) A L B post) Q := w_put (show decode kb6 67 = .ok (.putfield 212, 3) from by decide +kernel) pf6_212 put_o (Nat.zero_le _) (by show 75 < 85; omega) rfl put_s43
theorem m6_70 : M6 70 [.val (.ref r)] st H Q = M6 71 [.val (.ref r)] (.ref r :: st) H Q := w_x (show decode kb6 70 = .ok (.aload_n 0, 1) from by decide +kernel) rfl
theorem cr6_337 : vR tables_1 dn y6 337 = some (true, y7, prog_1_method_39_code, 3, none, 0, 0) := pR_of (cR_of (by decide +kernel) rc_7 dn_7 dn_6 (sig := ⟨[], none⟩) (by decide +kernel) (by decide +kernel) rfl rfl) (by decide +kernel) (by decide +kernel)
theorem m6_71 : M6 71 ls [.ref b] (put b pre s A L B post) Q = M7 0 [.val (.ref b), .unset, .unset] [] (put b pre s A L B post) (fun v H1 => M6 74 ls (v.toList ++ []) H1 Q) := w_virt (as := []) (rest := []) (a := b) (show decode kb6 71 = .ok (.invokevirtual 337, 3) from by decide +kernel) cr6_337 put_o rfl rfl (Nat.le_of_ble_eq_true rfl) (by show 1 ≤ 3; omega) rfl
theorem m6_74 : M6 74 [.val (.ref r)] st H Q = M6 75 [.val (.ref r)] (.ref r :: st) H Q := w_x (show decode kb6 74 = .ok (.aload_n 0, 1) from by decide +kernel) rfl
theorem m6_75 : M6 75 ls st H Q = M6 76 ls (.int (-1) :: st) H Q := w_con (show decode kb6 75 = .ok (.iconst (-1), 1) from by decide +kernel) rfl (by decide)
theorem m6_76 : M6 76 ls st H Q = M6 77 ls (.int 0 :: st) H Q := w_con (show decode kb6 76 = .ok (.iconst 0, 1) from by decide +kernel) rfl (by decide)
theorem cr6_340 : vR tables_1 dn y6 340 = some (true, y8, prog_1_method_40_code, 3, none, 2, 0) := pR_of (cR_of (by decide +kernel) rc_8 dn_8 dn_6 (sig := ⟨[.int, .int], none⟩) (by decide +kernel) (by decide +kernel) rfl rfl) (by decide +kernel) (by decide +kernel)
theorem m6_77 (a0 : Int32) (a1 : Int32) : M6 77 ls [.int a1, .int a0, .ref b] (put b pre s A L B post) Q = M8 0 [.val (.ref b), .val (.int a0), .val (.int a1)] [] (put b pre s A L B post) (fun v H1 => M6 80 ls (v.toList ++ []) H1 Q) := w_virt (as := [.int a1, .int a0]) (rest := []) (a := b) (show decode kb6 77 = .ok (.invokevirtual 340, 3) from by decide +kernel) cr6_340 put_o rfl rfl (Nat.le_of_ble_eq_true rfl) (by show 3 ≤ 3; omega) rfl
theorem m6_80 : M6 80 ls [] H Q = Q none H := w_vret (show decode kb6 80 = .ok (.return_, 1) from by decide +kernel) rfl
theorem m7_0 : M7 0 [.val (.ref r), l1, l2] st H Q = M7 1 [.val (.ref r), l1, l2] (.ref r :: st) H Q := w_x (show decode kb7 0 = .ok (.aload_n 0, 1) from by decide +kernel) rfl
theorem m7_1 : M7 1 ls st H Q = M7 2 ls (.int 0 :: st) H Q := w_con (show decode kb7 1 = .ok (.iconst 0, 1) from by decide +kernel) rfl (by decide)
theorem pf7_209 : pfR tables_1 y7.cls y7.name 209 = some ("MacroAssembler", 76, .int) := by decide +kernel
theorem m7_2 : M7 2 ls (.int v :: .ref b :: st) (put b pre s A L B post) Q = M7 5 ls st (put b pre (ou s 23 v) A L B post) Q := w_put (show decode kb7 2 = .ok (.putfield 209, 3) from by decide +kernel) pf7_209 put_o (Nat.zero_le _) (by show 76 < 85; omega) rfl put_s23
theorem m7_5 : M7 5 ls st H Q = M7 6 ls (.int 0 :: st) H Q := w_con (show decode kb7 5 = .ok (.iconst 0, 1) from by decide +kernel) rfl (by decide)
theorem m7_6u : M7 6 [l0, .unset, l2] ((.int v) :: st) H Q = M7 7 [l0, .val (.int v), l2] st H Q := w_st (i := 1) (p := isI) (show decode kb7 6 = .ok (.istore_n 1, 1) from by decide +kernel) rfl rfl rfl rfl rfl rfl
theorem m7_7 : M7 7 ls st H Q = M7 8 ls (.int 0 :: st) H Q := w_con (show decode kb7 7 = .ok (.iconst 0, 1) from by decide +kernel) rfl (by decide)
theorem m7_8u : M7 8 [l0, l1, .unset] ((.int v) :: st) H Q = M7 9 [l0, l1, .val (.int v)] st H Q := w_st (i := 2) (p := isI) (show decode kb7 8 = .ok (.istore_n 2, 1) from by decide +kernel) rfl rfl rfl rfl rfl rfl
theorem m7_9 : M7 9 [l0, l1, .val (.int v)] st H Q = M7 10 [l0, l1, .val (.int v)] (.int v :: st) H Q := w_x (show decode kb7 9 = .ok (.iload_n 2, 1) from by decide +kernel) rfl
theorem m7_10 : M7 10 [.val (.ref r), l1, l2] st H Q = M7 11 [.val (.ref r), l1, l2] (.ref r :: st) H Q := w_x (show decode kb7 10 = .ok (.aload_n 0, 1) from by decide +kernel) rfl
theorem m7_11 : M7 11 ls (.ref b :: st) (put b pre s A L B post) Q = M7 14 ls (.int (s 22) :: st) (put b pre s A L B post) Q := w_get (show decode kb7 11 = .ok (.getfield 186, 3) from by decide +kernel) gf_186 put_o rfl
theorem m7_14 : M7 14 ls (.int y :: .int x :: st) H Q = if x < y then M7 17 ls st H Q else M7 85 ls st H Q := w_icmpN (show decode kb7 14 = .ok (.if_icmp .ge 71, 3) from by decide +kernel) (i_ge x y) rfl
theorem m7_17 : M7 17 [l0, l1, .val (.int v)] st H Q = M7 18 [l0, l1, .val (.int v)] (.int v :: st) H Q := w_x (show decode kb7 17 = .ok (.iload_n 2, 1) from by decide +kernel) rfl
theorem m7_18 : M7 18 ls st H Q = M7 21 ls (.int 640 :: st) H Q := w_con (show decode kb7 18 = .ok (.sipush 640, 3) from by decide +kernel) rfl (by decide)
theorem m7_21 : M7 21 ls (.int y :: .int x :: st) H Q = if x < y then M7 24 ls st H Q else M7 85 ls st H Q := w_icmpN (show decode kb7 21 = .ok (.if_icmp .ge 64, 3) from by decide +kernel) (i_ge x y) rfl
theorem m7_24 : M7 24 [.val (.ref r), l1, l2] st H Q = M7 25 [.val (.ref r), l1, l2] (.ref r :: st) H Q := w_x (show decode kb7 24 = .ok (.aload_n 0, 1) from by decide +kernel) rfl
theorem m7_25 : M7 25 ls (.ref b :: st) (put b pre s A L B post) Q = M7 28 ls (.ref (b + 1) :: st) (put b pre s A L B post) Q := w_get (show decode kb7 25 = .ok (.getfield 73, 3) from by decide +kernel) gf_73 put_o rfl
theorem m7_28 : M7 28 [l0, l1, .val (.int v)] st H Q = M7 29 [l0, l1, .val (.int v)] (.int v :: st) H Q := w_x (show decode kb7 28 = .ok (.iload_n 2, 1) from by decide +kernel) rfl
theorem m7_29  : M7 29 ls (.int j :: .ref (b + 1) :: st) (put b pre s A L B post) Q = (inB j (A 0) ∧ M7 30 ls (.int (getA (A 0) j) :: st) (put b pre s A L B post) Q) := w_ild (show decode kb7 29 = .ok (.caload, 1) from by decide +kernel) rfl put_a0
theorem m7_30 : M7 30 ls st H Q = M7 32 ls (.int 10 :: st) H Q := w_con (show decode kb7 30 = .ok (.bipush 10, 2) from by decide +kernel) rfl (by decide)
theorem m7_32 : M7 32 ls (.int y :: .int x :: st) H Q = if x = y then M7 35 ls st H Q else M7 79 ls st H Q := w_icmpN (show decode kb7 32 = .ok (.if_icmp .ne 47, 3) from by decide +kernel) (i_ne x y) rfl
theorem m7_79 : M7 79 [l0, l1, .val (.int v)] st H Q = M7 82 [l0, l1, .val (.int (v + 1))] st H Q := w_iinc (show decode kb7 79 = .ok (.iinc 2 1, 3) from by decide +kernel) rfl (by decide) rfl
theorem m7_82 : M7 82 ls st H Q = M7 9 ls st H Q := w_x (show decode kb7 82 = .ok (.goto (-73), 3) from by decide +kernel) rfl
theorem m7_85 : M7 85 [l0, .val (.int v), l2] st H Q = M7 86 [l0, .val (.int v), l2] (.int v :: st) H Q := w_x (show decode kb7 85 = .ok (.iload_n 1, 1) from by decide +kernel) rfl
theorem m7_86 : M7 86 [.val (.ref r), l1, l2] st H Q = M7 87 [.val (.ref r), l1, l2] (.ref r :: st) H Q := w_x (show decode kb7 86 = .ok (.aload_n 0, 1) from by decide +kernel) rfl
theorem m7_87 : M7 87 ls (.ref b :: st) (put b pre s A L B post) Q = M7 90 ls (.int (s 22) :: st) (put b pre s A L B post) Q := w_get (show decode kb7 87 = .ok (.getfield 186, 3) from by decide +kernel) gf_186 put_o rfl
theorem m7_90 : M7 90 ls (.int y :: .int x :: st) H Q = if x < y then M7 93 ls st H Q else M7 136 ls st H Q := w_icmpN (show decode kb7 90 = .ok (.if_icmp .ge 46, 3) from by decide +kernel) (i_ge x y) rfl
theorem m7_93 : M7 93 [.val (.ref r), l1, l2] st H Q = M7 94 [.val (.ref r), l1, l2] (.ref r :: st) H Q := w_x (show decode kb7 93 = .ok (.aload_n 0, 1) from by decide +kernel) rfl
theorem m7_94 : M7 94 ls (.ref b :: st) (put b pre s A L B post) Q = M7 97 ls (.int (s 23) :: st) (put b pre s A L B post) Q := w_get (show decode kb7 94 = .ok (.getfield 209, 3) from by decide +kernel) gf_209 put_o rfl
theorem m7_97 : M7 97 ls st H Q = M7 100 ls (.int 640 :: st) H Q := w_con (show decode kb7 97 = .ok (.sipush 640, 3) from by decide +kernel) rfl (by decide)
theorem m7_100 : M7 100 ls (.int y :: .int x :: st) H Q = if x < y then M7 103 ls st H Q else M7 136 ls st H Q := w_icmpN (show decode kb7 100 = .ok (.if_icmp .ge 36, 3) from by decide +kernel) (i_ge x y) rfl
theorem m7_103 : M7 103 [.val (.ref r), l1, l2] st H Q = M7 104 [.val (.ref r), l1, l2] (.ref r :: st) H Q := w_x (show decode kb7 103 = .ok (.aload_n 0, 1) from by decide +kernel) rfl
theorem m7_104 : M7 104 ls (.ref b :: st) (put b pre s A L B post) Q = M7 107 ls (.ref (b + 2) :: st) (put b pre s A L B post) Q := w_get (show decode kb7 104 = .ok (.getfield 77, 3) from by decide +kernel) gf_77 put_o rfl
theorem m7_107 : M7 107 [.val (.ref r), l1, l2] st H Q = M7 108 [.val (.ref r), l1, l2] (.ref r :: st) H Q := w_x (show decode kb7 107 = .ok (.aload_n 0, 1) from by decide +kernel) rfl
theorem m7_108 : M7 108 ls (.ref b :: st) (put b pre s A L B post) Q = M7 111 ls (.int (s 23) :: st) (put b pre s A L B post) Q := w_get (show decode kb7 108 = .ok (.getfield 209, 3) from by decide +kernel) gf_209 put_o rfl
theorem m7_111 : M7 111 [l0, .val (.int v), l2] st H Q = M7 112 [l0, .val (.int v), l2] (.int v :: st) H Q := w_x (show decode kb7 111 = .ok (.iload_n 1, 1) from by decide +kernel) rfl
theorem m7_112  : M7 112 ls (.int v :: .int j :: .ref (b + 2) :: st) (put b pre s A L B post) Q = (inB j (A 1) ∧ M7 113 ls st (put b pre s (ou A 1 (setA (A 1) j v)) L B post) Q) := w_ist (show decode kb7 112 = .ok (.iastore, 1) from by decide +kernel) rfl put_a1 (Nat.zero_le _) rfl put_w1
theorem m7_113 : M7 113 [.val (.ref r), l1, l2] st H Q = M7 114 [.val (.ref r), l1, l2] (.ref r :: st) H Q := w_x (show decode kb7 113 = .ok (.aload_n 0, 1) from by decide +kernel) rfl
theorem m7_114 : M7 114 ls (.ref b :: st) (put b pre s A L B post) Q = M7 117 ls (.ref (b + 3) :: st) (put b pre s A L B post) Q := w_get (show decode kb7 114 = .ok (.getfield 81, 3) from by decide +kernel) gf_81 put_o rfl
theorem m7_117 : M7 117 [.val (.ref r), l1, l2] st H Q = M7 118 [.val (.ref r), l1, l2] (.ref r :: st) H Q := w_x (show decode kb7 117 = .ok (.aload_n 0, 1) from by decide +kernel) rfl
theorem m7_118 : M7 118 ls (.ref b :: st) (put b pre s A L B post) Q = M7 121 ls (.int (s 23) :: st) (put b pre s A L B post) Q := w_get (show decode kb7 118 = .ok (.getfield 209, 3) from by decide +kernel) gf_209 put_o rfl
theorem m7_121 : M7 121 [.val (.ref r), l1, l2] st H Q = M7 122 [.val (.ref r), l1, l2] (.ref r :: st) H Q := w_x (show decode kb7 121 = .ok (.aload_n 0, 1) from by decide +kernel) rfl
theorem m7_122 : M7 122 ls (.ref b :: st) (put b pre s A L B post) Q = M7 125 ls (.int (s 22) :: st) (put b pre s A L B post) Q := w_get (show decode kb7 122 = .ok (.getfield 186, 3) from by decide +kernel) gf_186 put_o rfl
theorem m7_125  : M7 125 ls (.int v :: .int j :: .ref (b + 3) :: st) (put b pre s A L B post) Q = (inB j (A 2) ∧ M7 126 ls st (put b pre s (ou A 2 (setA (A 2) j v)) L B post) Q) := w_ist (show decode kb7 125 = .ok (.iastore, 1) from by decide +kernel) rfl put_a2 (Nat.zero_le _) rfl put_w2
theorem m7_126 : M7 126 [.val (.ref r), l1, l2] st H Q = M7 127 [.val (.ref r), l1, l2] (.ref r :: st) H Q := w_x (show decode kb7 126 = .ok (.aload_n 0, 1) from by decide +kernel) rfl
theorem m7_127 : M7 127 ls ((.ref r) :: st) H Q = M7 128 ls ((.ref r) :: (.ref r) :: st) H Q := w_x (show decode kb7 127 = .ok (.dup, 1) from by decide +kernel) rfl
theorem m7_128 : M7 128 ls (.ref b :: st) (put b pre s A L B post) Q = M7 131 ls (.int (s 23) :: st) (put b pre s A L B post) Q := w_get (show decode kb7 128 = .ok (.getfield 209, 3) from by decide +kernel) gf_209 put_o rfl
theorem m7_131 : M7 131 ls st H Q = M7 132 ls (.int 1 :: st) H Q := w_con (show decode kb7 131 = .ok (.iconst 1, 1) from by decide +kernel) rfl (by decide)
theorem m7_132 : M7 132 ls (.int y :: .int x :: st) H Q = M7 133 ls (.int (x + y) :: st) H Q := w_x (show decode kb7 132 = .ok (.iadd, 1) from by decide +kernel) rfl
theorem m7_133 : M7 133 ls (.int v :: .ref b :: st) (put b pre s A L B post) Q = M7 136 ls st (put b pre (ou s 23 v) A L B post) Q := w_put (show decode kb7 133 = .ok (.putfield 209, 3) from by decide +kernel) pf7_209 put_o (Nat.zero_le _) (by show 76 < 85; omega) rfl put_s23
theorem m7_136 : M7 136 ls [] H Q = Q none H := w_vret (show decode kb7 136 = .ok (.return_, 1) from by decide +kernel) rfl
theorem m8_0 : M8 0 [.val (.ref r), l1, l2] st H Q = M8 1 [.val (.ref r), l1, l2] (.ref r :: st) H Q := w_x (show decode kb8 0 = .ok (.aload_n 0, 1) from by decide +kernel) rfl
theorem m8_1 : M8 1 [l0, .val (.int v), l2] st H Q = M8 2 [l0, .val (.int v), l2] (.int v :: st) H Q := w_x (show decode kb8 1 = .ok (.iload_n 1, 1) from by decide +kernel) rfl
theorem pf8_344 : pfR tables_1 y8.cls y8.name 344 = some ("MacroAssembler", 77, .int) := by decide +kernel
theorem m8_2 : M8 2 ls (.int v :: .ref b :: st) (put b pre s A L B post) Q = M8 5 ls st (put b pre (ou s 34 v) A L B post) Q := w_put (show decode kb8 2 = .ok (.putfield 344, 3) from by decide +kernel) pf8_344 put_o (Nat.zero_le _) (by show 77 < 85; omega) rfl put_s34
theorem m8_5 : M8 5 [.val (.ref r), l1, l2] st H Q = M8 6 [.val (.ref r), l1, l2] (.ref r :: st) H Q := w_x (show decode kb8 5 = .ok (.aload_n 0, 1) from by decide +kernel) rfl
theorem m8_6 : M8 6 [l0, l1, .val (.int v)] st H Q = M8 7 [l0, l1, .val (.int v)] (.int v :: st) H Q := w_x (show decode kb8 6 = .ok (.iload_n 2, 1) from by decide +kernel) rfl
theorem pf8_347 : pfR tables_1 y8.cls y8.name 347 = some ("MacroAssembler", 78, .int) := by decide +kernel
theorem m8_7 : M8 7 ls (.int v :: .ref b :: st) (put b pre s A L B post) Q = M8 10 ls st (put b pre (ou s 35 v) A L B post) Q := w_put (show decode kb8 7 = .ok (.putfield 347, 3) from by decide +kernel) pf8_347 put_o (Nat.zero_le _) (by show 78 < 85; omega) rfl put_s35
theorem m8_10 : M8 10 [.val (.ref r), l1, l2] st H Q = M8 11 [.val (.ref r), l1, l2] (.ref r :: st) H Q := w_x (show decode kb8 10 = .ok (.aload_n 0, 1) from by decide +kernel) rfl
theorem m8_11 : M8 11 [l0, .val (.int v), l2] st H Q = M8 12 [l0, .val (.int v), l2] (.int v :: st) H Q := w_x (show decode kb8 11 = .ok (.iload_n 1, 1) from by decide +kernel) rfl
theorem m8_12 : M8 12 ls (.int x :: st) H Q = if x < 0 then M8 30 ls st H Q else M8 15 ls st H Q := w_if (show decode kb8 12 = .ok (.ifCond .lt 18, 3) from by decide +kernel) (z_lt x) rfl
theorem m8_30 : M8 30 [.val (.ref r), l1, l2] st H Q = M8 31 [.val (.ref r), l1, l2] (.ref r :: st) H Q := w_x (show decode kb8 30 = .ok (.aload_n 0, 1) from by decide +kernel) rfl
theorem m8_31 : M8 31 ls (.ref b :: st) (put b pre s A L B post) Q = M8 34 ls (.int (s 23) :: st) (put b pre s A L B post) Q := w_get (show decode kb8 31 = .ok (.getfield 209, 3) from by decide +kernel) gf_209 put_o rfl
theorem pf8_350 : pfR tables_1 y8.cls y8.name 350 = some ("MacroAssembler", 79, .int) := by decide +kernel
theorem m8_34 : M8 34 ls (.int v :: .ref b :: st) (put b pre s A L B post) Q = M8 37 ls st (put b pre (ou s 36 v) A L B post) Q := w_put (show decode kb8 34 = .ok (.putfield 350, 3) from by decide +kernel) pf8_350 put_o (Nat.zero_le _) (by show 79 < 85; omega) rfl put_s36
theorem m8_37 : M8 37 ls [] H Q = Q none H := w_vret (show decode kb8 37 = .ok (.return_, 1) from by decide +kernel) rfl
theorem m9_0 : M9 0 [.val (.ref r), l1] st H Q = M9 1 [.val (.ref r), l1] (.ref r :: st) H Q := w_x (show decode kb9 0 = .ok (.aload_n 0, 1) from by decide +kernel) rfl
theorem m9_1 : M9 1 ls (.ref b :: st) (put b pre s A L B post) Q = M9 4 ls (.int (s 35) :: st) (put b pre s A L B post) Q := w_get (show decode kb9 1 = .ok (.getfield 347, 3) from by decide +kernel) gf_347 put_o rfl
theorem m9_4 : M9 4 [.val (.ref r), l1] st H Q = M9 5 [.val (.ref r), l1] (.ref r :: st) H Q := w_x (show decode kb9 4 = .ok (.aload_n 0, 1) from by decide +kernel) rfl
theorem m9_5 : M9 5 ls (.ref b :: st) (put b pre s A L B post) Q = M9 8 ls (.int (s 36) :: st) (put b pre s A L B post) Q := w_get (show decode kb9 5 = .ok (.getfield 350, 3) from by decide +kernel) gf_350 put_o rfl
theorem m9_8 : M9 8 ls (.int y :: .int x :: st) H Q = if x < y then M9 16 ls st H Q else M9 11 ls st H Q := w_icmp (show decode kb9 8 = .ok (.if_icmp .lt 8, 3) from by decide +kernel) (i_lt x y) rfl
theorem m9_11 : M9 11 [.val (.ref r), l1] st H Q = M9 12 [.val (.ref r), l1] (.ref r :: st) H Q := w_x (show decode kb9 11 = .ok (.aload_n 0, 1) from by decide +kernel) rfl
theorem cr9_353 : vR tables_1 dn y9 353 = some (true, y28, prog_1_method_42_code, 1, none, 0, 82) := pR_of (cR_of (by decide +kernel) rc_28 dn_28 dn_9 (sig := ⟨[], none⟩) (by decide +kernel) (by decide +kernel) rfl rfl) (by decide +kernel) (by decide +kernel)
theorem m9_12 : M9 12 ls [.ref b] (put b pre s A L B post) Q = M28 0 [.val (.ref b)] [] (put b pre s A L B post) (fun v H1 => M9 15 ls (v.toList ++ []) H1 Q) := w_virt (as := []) (rest := []) (a := b) (show decode kb9 12 = .ok (.invokevirtual 353, 3) from by decide +kernel) cr9_353 put_o rfl rfl (Nat.le_of_ble_eq_true rfl) (by show 1 ≤ 1; omega) rfl
theorem m9_15 : M9 15 ls [] H Q = Q none H := w_vret (show decode kb9 15 = .ok (.return_, 1) from by decide +kernel) rfl
theorem m9_16 : M9 16 [.val (.ref r), l1] st H Q = M9 17 [.val (.ref r), l1] (.ref r :: st) H Q := w_x (show decode kb9 16 = .ok (.aload_n 0, 1) from by decide +kernel) rfl
theorem m9_17 : M9 17 ls (.ref b :: st) (put b pre s A L B post) Q = M9 20 ls (.int (s 35) :: st) (put b pre s A L B post) Q := w_get (show decode kb9 17 = .ok (.getfield 347, 3) from by decide +kernel) gf_347 put_o rfl
theorem m9_20u : M9 20 [l0, .unset] ((.int v) :: st) H Q = M9 21 [l0, .val (.int v)] st H Q := w_st (i := 1) (p := isI) (show decode kb9 20 = .ok (.istore_n 1, 1) from by decide +kernel) rfl rfl rfl rfl rfl rfl
theorem m9_21 : M9 21 [.val (.ref r), l1] st H Q = M9 22 [.val (.ref r), l1] (.ref r :: st) H Q := w_x (show decode kb9 21 = .ok (.aload_n 0, 1) from by decide +kernel) rfl
theorem m9_22 : M9 22 ls ((.ref r) :: st) H Q = M9 23 ls ((.ref r) :: (.ref r) :: st) H Q := w_x (show decode kb9 22 = .ok (.dup, 1) from by decide +kernel) rfl
theorem m9_23 : M9 23 ls (.ref b :: st) (put b pre s A L B post) Q = M9 26 ls (.int (s 35) :: st) (put b pre s A L B post) Q := w_get (show decode kb9 23 = .ok (.getfield 347, 3) from by decide +kernel) gf_347 put_o rfl
theorem m9_26 : M9 26 ls st H Q = M9 27 ls (.int 1 :: st) H Q := w_con (show decode kb9 26 = .ok (.iconst 1, 1) from by decide +kernel) rfl (by decide)
theorem m9_27 : M9 27 ls (.int y :: .int x :: st) H Q = M9 28 ls (.int (x + y) :: st) H Q := w_x (show decode kb9 27 = .ok (.iadd, 1) from by decide +kernel) rfl
theorem pf9_347 : pfR tables_1 y9.cls y9.name 347 = some ("MacroAssembler", 78, .int) := by decide +kernel
theorem m9_28 : M9 28 ls (.int v :: .ref b :: st) (put b pre s A L B post) Q = M9 31 ls st (put b pre (ou s 35 v) A L B post) Q := w_put (show decode kb9 28 = .ok (.putfield 347, 3) from by decide +kernel) pf9_347 put_o (Nat.zero_le _) (by show 78 < 85; omega) rfl put_s35
theorem m9_31 : M9 31 [.val (.ref r), l1] st H Q = M9 32 [.val (.ref r), l1] (.ref r :: st) H Q := w_x (show decode kb9 31 = .ok (.aload_n 0, 1) from by decide +kernel) rfl
theorem m9_32 : M9 32 [.val (.ref r), l1] st H Q = M9 33 [.val (.ref r), l1] (.ref r :: st) H Q := w_x (show decode kb9 32 = .ok (.aload_n 0, 1) from by decide +kernel) rfl
theorem m9_33 : M9 33 ls (.ref b :: st) (put b pre s A L B post) Q = M9 36 ls (.int (s 34) :: st) (put b pre s A L B post) Q := w_get (show decode kb9 33 = .ok (.getfield 344, 3) from by decide +kernel) gf_344 put_o rfl
theorem m9_36 : M9 36 ls (.int x :: st) H Q = if x < 0 then M9 39 ls st H Q else M9 45 ls st H Q := w_ifN (show decode kb9 36 = .ok (.ifCond .ge 9, 3) from by decide +kernel) (z_ge x) rfl
theorem m9_39 : M9 39 [l0, .val (.int v)] st H Q = M9 40 [l0, .val (.int v)] (.int v :: st) H Q := w_x (show decode kb9 39 = .ok (.iload_n 1, 1) from by decide +kernel) rfl
theorem m9_40 : M9 40 ls st H Q = M9 41 ls (.int 1 :: st) H Q := w_con (show decode kb9 40 = .ok (.iconst 1, 1) from by decide +kernel) rfl (by decide)
theorem m9_41 : M9 41 ls (.int y :: .int x :: st) H Q = M9 42 ls (.int (x + y) :: st) H Q := w_x (show decode kb9 41 = .ok (.iadd, 1) from by decide +kernel) rfl
theorem m9_42 : M9 42 ls st H Q = M9 49 ls st H Q := w_x (show decode kb9 42 = .ok (.goto 7, 3) from by decide +kernel) rfl
theorem pf9_212 : pfR tables_1 y9.cls y9.name 212 = some ("MacroAssembler", 75, .int) := by decide +kernel
theorem m9_49 : M9 49 ls (.int v :: .ref b :: st) (put b pre s A L B post) Q = M9 52 ls st (put b pre (ou s 43 v) A L B post) Q := w_put (show decode kb9 49 = .ok (.putfield 212, 3) from by decide +kernel) pf9_212 put_o (Nat.zero_le _) (by show 75 < 85; omega) rfl put_s43
theorem m9_52 : M9 52 [.val (.ref r), l1] st H Q = M9 53 [.val (.ref r), l1] (.ref r :: st) H Q := w_x (show decode kb9 52 = .ok (.aload_n 0, 1) from by decide +kernel) rfl
theorem m9_53 : M9 53 ls ((.ref r) :: st) H Q = M9 54 ls ((.ref r) :: (.ref r) :: st) H Q := w_x (show decode kb9 53 = .ok (.dup, 1) from by decide +kernel) rfl
theorem m9_54 : M9 54 ls (.ref b :: st) (put b pre s A L B post) Q = M9 57 ls (.int (s 40) :: st) (put b pre s A L B post) Q := w_get (show decode kb9 54 = .ok (.getfield 319, 3) from by decide +kernel) gf_319 put_o rfl
theorem m9_57 : M9 57 ls st H Q = M9 58 ls (.int 1 :: st) H Q := w_con (show decode kb9 57 = .ok (.iconst 1, 1) from by decide +kernel) rfl (by decide)
theorem m9_58 : M9 58 ls (.int y :: .int x :: st) H Q = M9 59 ls (.int (x + y) :: st) H Q := w_x (show decode kb9 58 = .ok (.iadd, 1) from by decide +kernel) rfl
theorem pf9_319 : pfR tables_1 y9.cls y9.name 319 = some ("MacroAssembler", 67, .int) := by decide +kernel
theorem m9_59 : M9 59 ls (.int v :: .ref b :: st) (put b pre s A L B post) Q = M9 62 ls st (put b pre (ou s 40 v) A L B post) Q := w_put (show decode kb9 59 = .ok (.putfield 319, 3) from by decide +kernel) pf9_319 put_o (Nat.zero_le _) (by show 67 < 85; omega) rfl put_s40
theorem m9_62 : M9 62 [.val (.ref r), l1] st H Q = M9 63 [.val (.ref r), l1] (.ref r :: st) H Q := w_x (show decode kb9 62 = .ok (.aload_n 0, 1) from by decide +kernel) rfl
theorem m9_63 : M9 63 ls (.ref b :: st) (put b pre s A L B post) Q = M9 66 ls (.int (s 40) :: st) (put b pre s A L B post) Q := w_get (show decode kb9 63 = .ok (.getfield 319, 3) from by decide +kernel) gf_319 put_o rfl
theorem m9_66 : M9 66 ls st H Q = M9 69 ls (.int 256 :: st) H Q := w_con (show decode kb9 66 = .ok (.sipush 256, 3) from by decide +kernel) rfl (by decide)
theorem m9_69 : M9 69 ls (.int y :: .int x :: st) H Q = if y < x then M9 72 ls st H Q else M9 77 ls st H Q := w_icmpN (show decode kb9 69 = .ok (.if_icmp .le 8, 3) from by decide +kernel) (i_le x y) rfl
theorem m9_77 : M9 77 [l0, .val (.int v)] st H Q = M9 78 [l0, .val (.int v)] (.int v :: st) H Q := w_x (show decode kb9 77 = .ok (.iload_n 1, 1) from by decide +kernel) rfl
theorem m9_78 : M9 78 ls (.int x :: st) H Q = if x < 0 then M9 89 ls st H Q else M9 81 ls st H Q := w_if (show decode kb9 78 = .ok (.ifCond .lt 11, 3) from by decide +kernel) (z_lt x) rfl
theorem m9_81 : M9 81 [l0, .val (.int v)] st H Q = M9 82 [l0, .val (.int v)] (.int v :: st) H Q := w_x (show decode kb9 81 = .ok (.iload_n 1, 1) from by decide +kernel) rfl
theorem m9_82 : M9 82 [.val (.ref r), l1] st H Q = M9 83 [.val (.ref r), l1] (.ref r :: st) H Q := w_x (show decode kb9 82 = .ok (.aload_n 0, 1) from by decide +kernel) rfl
theorem m9_83 : M9 83 ls (.ref b :: st) (put b pre s A L B post) Q = M9 86 ls (.int (s 23) :: st) (put b pre s A L B post) Q := w_get (show decode kb9 83 = .ok (.getfield 209, 3) from by decide +kernel) gf_209 put_o rfl
theorem m9_86 : M9 86 ls (.int y :: .int x :: st) H Q = if x < y then M9 94 ls st H Q else M9 89 ls st H Q := w_icmp (show decode kb9 86 = .ok (.if_icmp .lt 8, 3) from by decide +kernel) (i_lt x y) rfl
theorem m9_94 : M9 94 [.val (.ref r), l1] st H Q = M9 95 [.val (.ref r), l1] (.ref r :: st) H Q := w_x (show decode kb9 94 = .ok (.aload_n 0, 1) from by decide +kernel) rfl
theorem m9_95 : M9 95 ls (.ref b :: st) (put b pre s A L B post) Q = M9 98 ls (.int (s 34) :: st) (put b pre s A L B post) Q := w_get (show decode kb9 95 = .ok (.getfield 344, 3) from by decide +kernel) gf_344 put_o rfl
theorem m9_98 : M9 98 ls (.int x :: st) H Q = if x < 0 then M9 101 ls st H Q else M9 109 ls st H Q := w_ifN (show decode kb9 98 = .ok (.ifCond .ge 11, 3) from by decide +kernel) (z_ge x) rfl
theorem m9_101 : M9 101 [.val (.ref r), l1] st H Q = M9 102 [.val (.ref r), l1] (.ref r :: st) H Q := w_x (show decode kb9 101 = .ok (.aload_n 0, 1) from by decide +kernel) rfl
theorem m9_102 : M9 102 [l0, .val (.int v)] st H Q = M9 103 [l0, .val (.int v)] (.int v :: st) H Q := w_x (show decode kb9 102 = .ok (.iload_n 1, 1) from by decide +kernel) rfl
theorem cr9_359 : vR tables_1 dn y9 359 = some (true, y10, prog_1_method_45_code, 3, none, 1, 80) := pR_of (cR_of (by decide +kernel) rc_10 dn_10 dn_9 (sig := ⟨[.int], none⟩) (by decide +kernel) (by decide +kernel) rfl rfl) (by decide +kernel) (by decide +kernel)
theorem m9_103 (a0 : Int32) : M9 103 ls [.int a0, .ref b] (put b pre s A L B post) Q = M10 0 [.val (.ref b), .val (.int a0), .unset] [] (put b pre s A L B post) (fun v H1 => M9 106 ls (v.toList ++ []) H1 Q) := w_virt (as := [.int a0]) (rest := []) (a := b) (show decode kb9 103 = .ok (.invokevirtual 359, 3) from by decide +kernel) cr9_359 put_o rfl rfl (Nat.le_of_ble_eq_true rfl) (by show 2 ≤ 3; omega) rfl
theorem m9_106 : M9 106 ls st H Q = M9 114 ls st H Q := w_x (show decode kb9 106 = .ok (.goto 8, 3) from by decide +kernel) rfl
theorem m9_114 : M9 114 [.val (.ref r), l1] st H Q = M9 115 [.val (.ref r), l1] (.ref r :: st) H Q := w_x (show decode kb9 114 = .ok (.aload_n 0, 1) from by decide +kernel) rfl
theorem m9_115 : M9 115 ls (.ref b :: st) (put b pre s A L B post) Q = M9 118 ls (.int (s 44) :: st) (put b pre s A L B post) Q := w_get (show decode kb9 115 = .ok (.getfield 199, 3) from by decide +kernel) gf_199 put_o rfl
theorem m9_118 : M9 118 ls (.int x :: st) H Q = if x = 0 then M9 122 ls st H Q else M9 121 ls st H Q := w_if (show decode kb9 118 = .ok (.ifCond .eq 4, 3) from by decide +kernel) (z_eq x) rfl
theorem m9_122 : M9 122 [.val (.ref r), l1] st H Q = M9 123 [.val (.ref r), l1] (.ref r :: st) H Q := w_x (show decode kb9 122 = .ok (.aload_n 0, 1) from by decide +kernel) rfl
theorem m9_123 : M9 123 ls (.ref b :: st) (put b pre s A L B post) Q = M9 126 ls (.int (s 37) :: st) (put b pre s A L B post) Q := w_get (show decode kb9 123 = .ok (.getfield 325, 3) from by decide +kernel) gf_325 put_o rfl
theorem m9_126 : M9 126 ls st H Q = M9 127 ls (.int 1 :: st) H Q := w_con (show decode kb9 126 = .ok (.iconst 1, 1) from by decide +kernel) rfl (by decide)
theorem m9_127 : M9 127 ls (.int y :: .int x :: st) H Q = if x = y then M9 130 ls st H Q else M9 138 ls st H Q := w_icmpN (show decode kb9 127 = .ok (.if_icmp .ne 11, 3) from by decide +kernel) (i_ne x y) rfl
theorem m9_138 : M9 138 [.val (.ref r), l1] st H Q = M9 139 [.val (.ref r), l1] (.ref r :: st) H Q := w_x (show decode kb9 138 = .ok (.aload_n 0, 1) from by decide +kernel) rfl
theorem m9_139 : M9 139 ls (.ref b :: st) (put b pre s A L B post) Q = M9 142 ls (.int (s 37) :: st) (put b pre s A L B post) Q := w_get (show decode kb9 139 = .ok (.getfield 325, 3) from by decide +kernel) gf_325 put_o rfl
theorem m9_142 : M9 142 ls st H Q = M9 143 ls (.int 2 :: st) H Q := w_con (show decode kb9 142 = .ok (.iconst 2, 1) from by decide +kernel) rfl (by decide)
theorem m9_143 : M9 143 ls (.int y :: .int x :: st) H Q = if x = y then M9 146 ls st H Q else M9 153 ls st H Q := w_icmpN (show decode kb9 143 = .ok (.if_icmp .ne 10, 3) from by decide +kernel) (i_ne x y) rfl
theorem m9_153 : M9 153 [.val (.ref r), l1] st H Q = M9 154 [.val (.ref r), l1] (.ref r :: st) H Q := w_x (show decode kb9 153 = .ok (.aload_n 0, 1) from by decide +kernel) rfl
theorem cr9_372 : vR tables_1 dn y9 372 = some (true, y11, prog_1_method_53_code, 10, none, 0, 0) := pR_of (cR_of (by decide +kernel) rc_11 dn_11 dn_9 (sig := ⟨[], none⟩) (by decide +kernel) (by decide +kernel) rfl rfl) (by decide +kernel) (by decide +kernel)
theorem m9_154 : M9 154 ls [.ref b] (put b pre s A L B post) Q = M11 0 [.val (.ref b), .unset, .unset, .unset, .unset, .unset, .unset, .unset, .unset, .unset] [] (put b pre s A L B post) (fun v H1 => M9 157 ls (v.toList ++ []) H1 Q) := w_virt (as := []) (rest := []) (a := b) (show decode kb9 154 = .ok (.invokevirtual 372, 3) from by decide +kernel) cr9_372 put_o rfl rfl (Nat.le_of_ble_eq_true rfl) (by show 1 ≤ 10; omega) rfl
theorem m9_157 : M9 157 ls [] H Q = Q none H := w_vret (show decode kb9 157 = .ok (.return_, 1) from by decide +kernel) rfl
theorem m10_0 : M10 0 [.val (.ref r), l1, l2] st H Q = M10 1 [.val (.ref r), l1, l2] (.ref r :: st) H Q := w_x (show decode kb10 0 = .ok (.aload_n 0, 1) from by decide +kernel) rfl
theorem m10_1 : M10 1 ls st H Q = M10 2 ls (.int 0 :: st) H Q := w_con (show decode kb10 1 = .ok (.iconst 0, 1) from by decide +kernel) rfl (by decide)
theorem pf10_274 : pfR tables_1 y10.cls y10.name 274 = some ("MacroAssembler", 80, .int) := by decide +kernel
theorem m10_2 : M10 2 ls (.int v :: .ref b :: st) (put b pre s A L B post) Q = M10 5 ls st (put b pre (ou s 46 v) A L B post) Q := w_put (show decode kb10 2 = .ok (.putfield 274, 3) from by decide +kernel) pf10_274 put_o (Nat.zero_le _) (by show 80 < 85; omega) rfl put_s46
theorem m10_5 : M10 5 [.val (.ref r), l1, l2] st H Q = M10 6 [.val (.ref r), l1, l2] (.ref r :: st) H Q := w_x (show decode kb10 5 = .ok (.aload_n 0, 1) from by decide +kernel) rfl
theorem m10_6 : M10 6 ls (.ref b :: st) (put b pre s A L B post) Q = M10 9 ls (.ref (b + 2) :: st) (put b pre s A L B post) Q := w_get (show decode kb10 6 = .ok (.getfield 77, 3) from by decide +kernel) gf_77 put_o rfl
theorem m10_9 : M10 9 [l0, .val (.int v), l2] st H Q = M10 10 [l0, .val (.int v), l2] (.int v :: st) H Q := w_x (show decode kb10 9 = .ok (.iload_n 1, 1) from by decide +kernel) rfl
theorem m10_10  : M10 10 ls (.int j :: .ref (b + 2) :: st) (put b pre s A L B post) Q = (inB j (A 1) ∧ M10 11 ls (.int (getA (A 1) j) :: st) (put b pre s A L B post) Q) := w_ild (show decode kb10 10 = .ok (.iaload, 1) from by decide +kernel) rfl put_a1
theorem m10_11u : M10 11 [l0, l1, .unset] ((.int v) :: st) H Q = M10 12 [l0, l1, .val (.int v)] st H Q := w_st (i := 2) (p := isI) (show decode kb10 11 = .ok (.istore_n 2, 1) from by decide +kernel) rfl rfl rfl rfl rfl rfl
theorem m10_12 : M10 12 [l0, l1, .val (.int v)] st H Q = M10 13 [l0, l1, .val (.int v)] (.int v :: st) H Q := w_x (show decode kb10 12 = .ok (.iload_n 2, 1) from by decide +kernel) rfl
theorem m10_13 : M10 13 [.val (.ref r), l1, l2] st H Q = M10 14 [.val (.ref r), l1, l2] (.ref r :: st) H Q := w_x (show decode kb10 13 = .ok (.aload_n 0, 1) from by decide +kernel) rfl
theorem m10_14 : M10 14 ls (.ref b :: st) (put b pre s A L B post) Q = M10 17 ls (.ref (b + 3) :: st) (put b pre s A L B post) Q := w_get (show decode kb10 14 = .ok (.getfield 81, 3) from by decide +kernel) gf_81 put_o rfl
theorem m10_17 : M10 17 [l0, .val (.int v), l2] st H Q = M10 18 [l0, .val (.int v), l2] (.int v :: st) H Q := w_x (show decode kb10 17 = .ok (.iload_n 1, 1) from by decide +kernel) rfl
theorem m10_18  : M10 18 ls (.int j :: .ref (b + 3) :: st) (put b pre s A L B post) Q = (inB j (A 2) ∧ M10 19 ls (.int (getA (A 2) j) :: st) (put b pre s A L B post) Q) := w_ild (show decode kb10 18 = .ok (.iaload, 1) from by decide +kernel) rfl put_a2
theorem m10_19 : M10 19 ls (.int y :: .int x :: st) H Q = if x < y then M10 22 ls st H Q else M10 63 ls st H Q := w_icmpN (show decode kb10 19 = .ok (.if_icmp .ge 44, 3) from by decide +kernel) (i_ge x y) rfl
theorem m10_22 : M10 22 [.val (.ref r), l1, l2] st H Q = M10 23 [.val (.ref r), l1, l2] (.ref r :: st) H Q := w_x (show decode kb10 22 = .ok (.aload_n 0, 1) from by decide +kernel) rfl
theorem m10_23 : M10 23 ls (.ref b :: st) (put b pre s A L B post) Q = M10 26 ls (.int (s 46) :: st) (put b pre s A L B post) Q := w_get (show decode kb10 23 = .ok (.getfield 274, 3) from by decide +kernel) gf_274 put_o rfl
theorem m10_26 : M10 26 ls st H Q = M10 29 ls (.int 640 :: st) H Q := w_con (show decode kb10 26 = .ok (.sipush 640, 3) from by decide +kernel) rfl (by decide)
theorem m10_29 : M10 29 ls (.int y :: .int x :: st) H Q = if x < y then M10 32 ls st H Q else M10 63 ls st H Q := w_icmpN (show decode kb10 29 = .ok (.if_icmp .ge 34, 3) from by decide +kernel) (i_ge x y) rfl
theorem m10_32 : M10 32 [.val (.ref r), l1, l2] st H Q = M10 33 [.val (.ref r), l1, l2] (.ref r :: st) H Q := w_x (show decode kb10 32 = .ok (.aload_n 0, 1) from by decide +kernel) rfl
theorem m10_33 : M10 33 ls (.ref b :: st) (put b pre s A L B post) Q = M10 36 ls (.ref (b + 22) :: st) (put b pre s A L B post) Q := w_get (show decode kb10 33 = .ok (.getfield 140, 3) from by decide +kernel) gf_140 put_o rfl
theorem m10_36 : M10 36 [.val (.ref r), l1, l2] st H Q = M10 37 [.val (.ref r), l1, l2] (.ref r :: st) H Q := w_x (show decode kb10 36 = .ok (.aload_n 0, 1) from by decide +kernel) rfl
theorem m10_37 : M10 37 ls (.ref b :: st) (put b pre s A L B post) Q = M10 40 ls (.int (s 46) :: st) (put b pre s A L B post) Q := w_get (show decode kb10 37 = .ok (.getfield 274, 3) from by decide +kernel) gf_274 put_o rfl
theorem m10_40 : M10 40 [.val (.ref r), l1, l2] st H Q = M10 41 [.val (.ref r), l1, l2] (.ref r :: st) H Q := w_x (show decode kb10 40 = .ok (.aload_n 0, 1) from by decide +kernel) rfl
theorem m10_41 : M10 41 ls (.ref b :: st) (put b pre s A L B post) Q = M10 44 ls (.ref (b + 1) :: st) (put b pre s A L B post) Q := w_get (show decode kb10 41 = .ok (.getfield 73, 3) from by decide +kernel) gf_73 put_o rfl
theorem m10_44 : M10 44 [l0, l1, .val (.int v)] st H Q = M10 45 [l0, l1, .val (.int v)] (.int v :: st) H Q := w_x (show decode kb10 44 = .ok (.iload_n 2, 1) from by decide +kernel) rfl
theorem m10_45  : M10 45 ls (.int j :: .ref (b + 1) :: st) (put b pre s A L B post) Q = (inB j (A 0) ∧ M10 46 ls (.int (getA (A 0) j) :: st) (put b pre s A L B post) Q) := w_ild (show decode kb10 45 = .ok (.caload, 1) from by decide +kernel) rfl put_a0
theorem m10_46  : M10 46 ls (.int v :: .int j :: .ref (b + 22) :: st) (put b pre s A L B post) Q = (inB j (A 19) ∧ M10 47 ls st (put b pre s (ou A 19 (setA (A 19) j (nar .char v))) L B post) Q) := w_ist (show decode kb10 46 = .ok (.castore, 1) from by decide +kernel) rfl put_a19 (Nat.zero_le _) rfl put_w19
theorem m10_47 : M10 47 [.val (.ref r), l1, l2] st H Q = M10 48 [.val (.ref r), l1, l2] (.ref r :: st) H Q := w_x (show decode kb10 47 = .ok (.aload_n 0, 1) from by decide +kernel) rfl
theorem m10_48 : M10 48 ls ((.ref r) :: st) H Q = M10 49 ls ((.ref r) :: (.ref r) :: st) H Q := w_x (show decode kb10 48 = .ok (.dup, 1) from by decide +kernel) rfl
theorem m10_49 : M10 49 ls (.ref b :: st) (put b pre s A L B post) Q = M10 52 ls (.int (s 46) :: st) (put b pre s A L B post) Q := w_get (show decode kb10 49 = .ok (.getfield 274, 3) from by decide +kernel) gf_274 put_o rfl
theorem m10_52 : M10 52 ls st H Q = M10 53 ls (.int 1 :: st) H Q := w_con (show decode kb10 52 = .ok (.iconst 1, 1) from by decide +kernel) rfl (by decide)
theorem m10_53 : M10 53 ls (.int y :: .int x :: st) H Q = M10 54 ls (.int (x + y) :: st) H Q := w_x (show decode kb10 53 = .ok (.iadd, 1) from by decide +kernel) rfl
theorem m10_54 : M10 54 ls (.int v :: .ref b :: st) (put b pre s A L B post) Q = M10 57 ls st (put b pre (ou s 46 v) A L B post) Q := w_put (show decode kb10 54 = .ok (.putfield 274, 3) from by decide +kernel) pf10_274 put_o (Nat.zero_le _) (by show 80 < 85; omega) rfl put_s46
theorem m10_57 : M10 57 [l0, l1, .val (.int v)] st H Q = M10 60 [l0, l1, .val (.int (v + 1))] st H Q := w_iinc (show decode kb10 57 = .ok (.iinc 2 1, 3) from by decide +kernel) rfl (by decide) rfl
theorem m10_60 : M10 60 ls st H Q = M10 12 ls st H Q := w_x (show decode kb10 60 = .ok (.goto (-48), 3) from by decide +kernel) rfl
theorem m10_63 : M10 63 ls [] H Q = Q none H := w_vret (show decode kb10 63 = .ok (.return_, 1) from by decide +kernel) rfl
theorem m11_0 : M11 0 [.val (.ref r), l1, l2, l3, l4, l5, l6, l7, l8, l9] st H Q = M11 1 [.val (.ref r), l1, l2, l3, l4, l5, l6, l7, l8, l9] (.ref r :: st) H Q := w_x (show decode kb11 0 = .ok (.aload_n 0, 1) from by decide +kernel) rfl
theorem cr11_397 : vR tables_1 dn y11 397 = some (true, y12, prog_1_method_54_code, 4, none, 0, 17) := pR_of (cR_of (by decide +kernel) rc_12 dn_12 dn_11 (sig := ⟨[], none⟩) (by decide +kernel) (by decide +kernel) rfl rfl) (by decide +kernel) (by decide +kernel)
theorem m11_1 : M11 1 ls [.ref b] (put b pre s A L B post) Q = M12 0 [.val (.ref b), .unset, .unset, .unset] [] (put b pre s A L B post) (fun v H1 => M11 4 ls (v.toList ++ []) H1 Q) := w_virt (as := []) (rest := []) (a := b) (show decode kb11 1 = .ok (.invokevirtual 397, 3) from by decide +kernel) cr11_397 put_o rfl rfl (Nat.le_of_ble_eq_true rfl) (by show 1 ≤ 4; omega) rfl
theorem m11_4 : M11 4 [.val (.ref r), l1, l2, l3, l4, l5, l6, l7, l8, l9] st H Q = M11 5 [.val (.ref r), l1, l2, l3, l4, l5, l6, l7, l8, l9] (.ref r :: st) H Q := w_x (show decode kb11 4 = .ok (.aload_n 0, 1) from by decide +kernel) rfl
theorem m11_5 : M11 5 [.val (.ref r), l1, l2, l3, l4, l5, l6, l7, l8, l9] st H Q = M11 6 [.val (.ref r), l1, l2, l3, l4, l5, l6, l7, l8, l9] (.ref r :: st) H Q := w_x (show decode kb11 5 = .ok (.aload_n 0, 1) from by decide +kernel) rfl
theorem m11_6 : M11 6 ls (.ref b :: st) (put b pre s A L B post) Q = M11 9 ls (.int (s 48) :: st) (put b pre s A L B post) Q := w_get (show decode kb11 6 = .ok (.getfield 400, 3) from by decide +kernel) gf_400 put_o rfl
theorem cr11_292 : vR tables_1 dn y11 292 = some (true, y13, prog_1_method_25_code, 4, (some .int), 1, 58) := pR_of (cR_of (by decide +kernel) rc_13 dn_13 dn_11 (sig := ⟨[.int], some .int⟩) (by decide +kernel) (by decide +kernel) rfl rfl) (by decide +kernel) (by decide +kernel)
theorem m11_9 (a0 : Int32) : M11 9 ls [.int a0, .ref b] (put b pre s A L B post) Q = M13 0 [.val (.ref b), .val (.int a0), .unset, .unset] [] (put b pre s A L B post) (fun v H1 => M11 12 ls (v.toList ++ []) H1 Q) := w_virt (as := [.int a0]) (rest := []) (a := b) (show decode kb11 9 = .ok (.invokevirtual 292, 3) from by decide +kernel) cr11_292 put_o rfl rfl (Nat.le_of_ble_eq_true rfl) (by show 2 ≤ 4; omega) rfl
theorem m11_12u : M11 12 [l0, .unset, l2, l3, l4, l5, l6, l7, l8, l9] ((.int v) :: st) H Q = M11 13 [l0, .val (.int v), l2, l3, l4, l5, l6, l7, l8, l9] st H Q := w_st (i := 1) (p := isI) (show decode kb11 12 = .ok (.istore_n 1, 1) from by decide +kernel) rfl rfl rfl rfl rfl rfl
theorem m11_13 : M11 13 [l0, .val (.int v), l2, l3, l4, l5, l6, l7, l8, l9] st H Q = M11 14 [l0, .val (.int v), l2, l3, l4, l5, l6, l7, l8, l9] (.int v :: st) H Q := w_x (show decode kb11 13 = .ok (.iload_n 1, 1) from by decide +kernel) rfl
theorem m11_14 : M11 14 [.val (.ref r), l1, l2, l3, l4, l5, l6, l7, l8, l9] st H Q = M11 15 [.val (.ref r), l1, l2, l3, l4, l5, l6, l7, l8, l9] (.ref r :: st) H Q := w_x (show decode kb11 14 = .ok (.aload_n 0, 1) from by decide +kernel) rfl
theorem m11_15 : M11 15 ls (.ref b :: st) (put b pre s A L B post) Q = M11 18 ls (.int (s 46) :: st) (put b pre s A L B post) Q := w_get (show decode kb11 15 = .ok (.getfield 274, 3) from by decide +kernel) gf_274 put_o rfl
theorem m11_18 : M11 18 ls (.int y :: .int x :: st) H Q = if x < y then M11 21 ls st H Q else M11 32 ls st H Q := w_icmpN (show decode kb11 18 = .ok (.if_icmp .ge 14, 3) from by decide +kernel) (i_ge x y) rfl
theorem m11_21 : M11 21 [.val (.ref r), l1, l2, l3, l4, l5, l6, l7, l8, l9] st H Q = M11 22 [.val (.ref r), l1, l2, l3, l4, l5, l6, l7, l8, l9] (.ref r :: st) H Q := w_x (show decode kb11 21 = .ok (.aload_n 0, 1) from by decide +kernel) rfl
theorem m11_22 : M11 22 ls (.ref b :: st) (put b pre s A L B post) Q = M11 25 ls (.ref (b + 22) :: st) (put b pre s A L B post) Q := w_get (show decode kb11 22 = .ok (.getfield 140, 3) from by decide +kernel) gf_140 put_o rfl
theorem m11_25 : M11 25 [l0, .val (.int v), l2, l3, l4, l5, l6, l7, l8, l9] st H Q = M11 26 [l0, .val (.int v), l2, l3, l4, l5, l6, l7, l8, l9] (.int v :: st) H Q := w_x (show decode kb11 25 = .ok (.iload_n 1, 1) from by decide +kernel) rfl
theorem m11_26  : M11 26 ls (.int j :: .ref (b + 22) :: st) (put b pre s A L B post) Q = (inB j (A 19) ∧ M11 27 ls (.int (getA (A 19) j) :: st) (put b pre s A L B post) Q) := w_ild (show decode kb11 26 = .ok (.caload, 1) from by decide +kernel) rfl put_a19
theorem m11_27 : M11 27 ls st H Q = M11 29 ls (.int 59 :: st) H Q := w_con (show decode kb11 27 = .ok (.bipush 59, 2) from by decide +kernel) rfl (by decide)
theorem m11_29 : M11 29 ls (.int y :: .int x :: st) H Q = if x = y then M11 32 ls st H Q else M11 37 ls st H Q := w_icmpN (show decode kb11 29 = .ok (.if_icmp .ne 8, 3) from by decide +kernel) (i_ne x y) rfl
theorem m11_37 : M11 37 [.val (.ref r), l1, l2, l3, l4, l5, l6, l7, l8, l9] st H Q = M11 38 [.val (.ref r), l1, l2, l3, l4, l5, l6, l7, l8, l9] (.ref r :: st) H Q := w_x (show decode kb11 37 = .ok (.aload_n 0, 1) from by decide +kernel) rfl
theorem m11_38 : M11 38 [.val (.ref r), l1, l2, l3, l4, l5, l6, l7, l8, l9] st H Q = M11 39 [.val (.ref r), l1, l2, l3, l4, l5, l6, l7, l8, l9] (.ref r :: st) H Q := w_x (show decode kb11 38 = .ok (.aload_n 0, 1) from by decide +kernel) rfl
theorem m11_39 : M11 39 ls (.ref b :: st) (put b pre s A L B post) Q = M11 42 ls (.ref (b + 22) :: st) (put b pre s A L B post) Q := w_get (show decode kb11 39 = .ok (.getfield 140, 3) from by decide +kernel) gf_140 put_o rfl
theorem m11_42 : M11 42 [l0, .val (.int v), l2, l3, l4, l5, l6, l7, l8, l9] st H Q = M11 43 [l0, .val (.int v), l2, l3, l4, l5, l6, l7, l8, l9] (.int v :: st) H Q := w_x (show decode kb11 42 = .ok (.iload_n 1, 1) from by decide +kernel) rfl
theorem m11_43  : M11 43 ls (.int j :: .ref (b + 22) :: st) (put b pre s A L B post) Q = (inB j (A 19) ∧ M11 44 ls (.int (getA (A 19) j) :: st) (put b pre s A L B post) Q) := w_ild (show decode kb11 43 = .ok (.caload, 1) from by decide +kernel) rfl put_a19
theorem cr11_268 : vR tables_1 dn y11 268 = some (true, y14, prog_1_method_23_code, 2, (some .boolean), 1, 60) := pR_of (cR_of (by decide +kernel) rc_14 dn_14 dn_11 (sig := ⟨[.int], some .boolean⟩) (by decide +kernel) (by decide +kernel) rfl rfl) (by decide +kernel) (by decide +kernel)
theorem m11_44 (a0 : Int32) : M11 44 ls [.int a0, .ref b] (put b pre s A L B post) Q = M14 0 [.val (.ref b), .val (.int a0)] [] (put b pre s A L B post) (fun v H1 => M11 47 ls (v.toList ++ []) H1 Q) := w_virt (as := [.int a0]) (rest := []) (a := b) (show decode kb11 44 = .ok (.invokevirtual 268, 3) from by decide +kernel) cr11_268 put_o rfl rfl (Nat.le_of_ble_eq_true rfl) (by show 2 ≤ 2; omega) rfl
theorem m11_47 : M11 47 ls (.int x :: st) H Q = if x = 0 then M11 50 ls st H Q else M11 55 ls st H Q := w_ifN (show decode kb11 47 = .ok (.ifCond .ne 8, 3) from by decide +kernel) (z_ne x) rfl
theorem m11_55 : M11 55 [.val (.ref r), l1, l2, l3, l4, l5, l6, l7, l8, l9] st H Q = M11 56 [.val (.ref r), l1, l2, l3, l4, l5, l6, l7, l8, l9] (.ref r :: st) H Q := w_x (show decode kb11 55 = .ok (.aload_n 0, 1) from by decide +kernel) rfl
theorem m11_56 : M11 56 [l0, .val (.int v), l2, l3, l4, l5, l6, l7, l8, l9] st H Q = M11 57 [l0, .val (.int v), l2, l3, l4, l5, l6, l7, l8, l9] (.int v :: st) H Q := w_x (show decode kb11 56 = .ok (.iload_n 1, 1) from by decide +kernel) rfl
theorem cr11_284 : vR tables_1 dn y11 284 = some (true, y15, prog_1_method_26_code, 4, (some .int), 1, 32) := pR_of (cR_of (by decide +kernel) rc_15 dn_15 dn_11 (sig := ⟨[.int], some .int⟩) (by decide +kernel) (by decide +kernel) rfl rfl) (by decide +kernel) (by decide +kernel)
theorem m11_57 (a0 : Int32) : M11 57 ls [.int a0, .ref b] (put b pre s A L B post) Q = M15 0 [.val (.ref b), .val (.int a0), .unset, .unset] [] (put b pre s A L B post) (fun v H1 => M11 60 ls (v.toList ++ []) H1 Q) := w_virt (as := [.int a0]) (rest := []) (a := b) (show decode kb11 57 = .ok (.invokevirtual 284, 3) from by decide +kernel) cr11_284 put_o rfl rfl (Nat.le_of_ble_eq_true rfl) (by show 2 ≤ 4; omega) rfl
theorem m11_60u : M11 60 [l0, l1, .unset, l3, l4, l5, l6, l7, l8, l9] ((.int v) :: st) H Q = M11 61 [l0, l1, .val (.int v), l3, l4, l5, l6, l7, l8, l9] st H Q := w_st (i := 2) (p := isI) (show decode kb11 60 = .ok (.istore_n 2, 1) from by decide +kernel) rfl rfl rfl rfl rfl rfl
theorem m11_61 : M11 61 [.val (.ref r), l1, l2, l3, l4, l5, l6, l7, l8, l9] st H Q = M11 62 [.val (.ref r), l1, l2, l3, l4, l5, l6, l7, l8, l9] (.ref r :: st) H Q := w_x (show decode kb11 61 = .ok (.aload_n 0, 1) from by decide +kernel) rfl
theorem m11_62 : M11 62 [l0, .val (.int v), l2, l3, l4, l5, l6, l7, l8, l9] st H Q = M11 63 [l0, .val (.int v), l2, l3, l4, l5, l6, l7, l8, l9] (.int v :: st) H Q := w_x (show decode kb11 62 = .ok (.iload_n 1, 1) from by decide +kernel) rfl
theorem m11_63 : M11 63 [l0, l1, .val (.int v), l3, l4, l5, l6, l7, l8, l9] st H Q = M11 64 [l0, l1, .val (.int v), l3, l4, l5, l6, l7, l8, l9] (.int v :: st) H Q := w_x (show decode kb11 63 = .ok (.iload_n 2, 1) from by decide +kernel) rfl
theorem cr11_288 : vR tables_1 dn y11 288 = some (true, y17, prog_1_method_27_code, 6, (some .long), 2, 56) := pR_of (cR_of (by decide +kernel) rc_17 dn_17 dn_11 (sig := ⟨[.int, .int], some .long⟩) (by decide +kernel) (by decide +kernel) rfl rfl) (by decide +kernel) (by decide +kernel)
theorem m11_64 (a0 : Int32) (a1 : Int32) : M11 64 ls [.int a1, .int a0, .ref b] (put b pre s A L B post) Q = M17 0 [.val (.ref b), .val (.int a0), .val (.int a1), .unset, .unset, .unset] [] (put b pre s A L B post) (fun v H1 => M11 67 ls (v.toList ++ []) H1 Q) := w_virt (as := [.int a1, .int a0]) (rest := []) (a := b) (show decode kb11 64 = .ok (.invokevirtual 288, 3) from by decide +kernel) cr11_288 put_o rfl rfl (Nat.le_of_ble_eq_true rfl) (by show 3 ≤ 6; omega) rfl
theorem m11_67 : M11 67 [l0, l1, l2, .unset, .unset, l5, l6, l7, l8, l9] (.long J1 :: st) H Q = M11 68 [l0, l1, l2, .val (.long J1), .second, l5, l6, l7, l8, l9] st H Q := w_x (show decode kb11 67 = .ok (.lstore_n 3, 1) from by decide +kernel) rfl
theorem m11_68 : M11 68 [.val (.ref r), l1, l2, l3, l4, l5, l6, l7, l8, l9] st H Q = M11 69 [.val (.ref r), l1, l2, l3, l4, l5, l6, l7, l8, l9] (.ref r :: st) H Q := w_x (show decode kb11 68 = .ok (.aload_n 0, 1) from by decide +kernel) rfl
theorem m11_69 : M11 69 [l0, l1, .val (.int v), l3, l4, l5, l6, l7, l8, l9] st H Q = M11 70 [l0, l1, .val (.int v), l3, l4, l5, l6, l7, l8, l9] (.int v :: st) H Q := w_x (show decode kb11 69 = .ok (.iload_n 2, 1) from by decide +kernel) rfl
theorem m11_70 (a0 : Int32) : M11 70 ls [.int a0, .ref b] (put b pre s A L B post) Q = M13 0 [.val (.ref b), .val (.int a0), .unset, .unset] [] (put b pre s A L B post) (fun v H1 => M11 73 ls (v.toList ++ []) H1 Q) := w_virt (as := [.int a0]) (rest := []) (a := b) (show decode kb11 70 = .ok (.invokevirtual 292, 3) from by decide +kernel) cr11_292 put_o rfl rfl (Nat.le_of_ble_eq_true rfl) (by show 2 ≤ 4; omega) rfl
theorem m11_73u : M11 73 [l0, l1, l2, l3, l4, .unset, l6, l7, l8, l9] ((.int v) :: st) H Q = M11 75 [l0, l1, l2, l3, l4, .val (.int v), l6, l7, l8, l9] st H Q := w_st (i := 5) (p := isI) (show decode kb11 73 = .ok (.istore 5, 2) from by decide +kernel) rfl rfl rfl rfl rfl rfl
theorem m11_75 : M11 75 [.val (.ref r), l1, l2, l3, l4, l5, l6, l7, l8, l9] st H Q = M11 76 [.val (.ref r), l1, l2, l3, l4, l5, l6, l7, l8, l9] (.ref r :: st) H Q := w_x (show decode kb11 75 = .ok (.aload_n 0, 1) from by decide +kernel) rfl
theorem m11_76 : M11 76 [l0, l1, l2, l3, l4, .val (.int v), l6, l7, l8, l9] st H Q = M11 78 [l0, l1, l2, l3, l4, .val (.int v), l6, l7, l8, l9] (.int v :: st) H Q := w_x (show decode kb11 76 = .ok (.iload 5, 2) from by decide +kernel) rfl
theorem cr11_295 : vR tables_1 dn y11 295 = some (true, y18, prog_1_method_28_code, 3, (some .long), 1, 18) := pR_of (cR_of (by decide +kernel) rc_18 dn_18 dn_11 (sig := ⟨[.int], some .long⟩) (by decide +kernel) (by decide +kernel) rfl rfl) (by decide +kernel) (by decide +kernel)
theorem m11_78 (a0 : Int32) : M11 78 ls [.int a0, .ref b] (put b pre s A L B post) Q = M18 0 [.val (.ref b), .val (.int a0), .unset] [] (put b pre s A L B post) (fun v H1 => M11 81 ls (v.toList ++ []) H1 Q) := w_virt (as := [.int a0]) (rest := []) (a := b) (show decode kb11 78 = .ok (.invokevirtual 295, 3) from by decide +kernel) cr11_295 put_o rfl rfl (Nat.le_of_ble_eq_true rfl) (by show 2 ≤ 3; omega) rfl
theorem m11_81 : M11 81 [l0, l1, l2, l3, l4, l5, .unset, .unset, l8, l9] (.long J1 :: st) H Q = M11 83 [l0, l1, l2, l3, l4, l5, .val (.long J1), .second, l8, l9] st H Q := w_x (show decode kb11 81 = .ok (.lstore 6, 2) from by decide +kernel) rfl
theorem m11_83 : M11 83 [l0, l1, l2, l3, l4, l5, .val (.long J1), l7, l8, l9] st H Q = M11 85 [l0, l1, l2, l3, l4, l5, .val (.long J1), l7, l8, l9] (.long J1 :: st) H Q := w_x (show decode kb11 83 = .ok (.lload 6, 2) from by decide +kernel) rfl
theorem m11_85 : M11 85 [.val (.ref r), l1, l2, l3, l4, l5, l6, l7, l8, l9] st H Q = M11 86 [.val (.ref r), l1, l2, l3, l4, l5, l6, l7, l8, l9] (.ref r :: st) H Q := w_x (show decode kb11 85 = .ok (.aload_n 0, 1) from by decide +kernel) rfl
theorem m11_86 : M11 86 ls st H Q = M11 88 ls (.int 11 :: st) H Q := w_con (show decode kb11 86 = .ok (.bipush 11, 2) from by decide +kernel) rfl (by decide)
theorem cr11_307 : vR tables_1 dn y11 307 = some (true, y19, prog_1_method_33_code, 2, (some .long), 1, 41) := pR_of (cR_of (by decide +kernel) rc_19 dn_19 dn_11 (sig := ⟨[.int], some .long⟩) (by decide +kernel) (by decide +kernel) rfl rfl) (by decide +kernel) (by decide +kernel)
theorem m11_88 (a0 : Int32) (u0 : Int64) : M11 88 ls [.int a0, .ref b, .long u0] (put b pre s A L B post) Q = M19 0 [.val (.ref b), .val (.int a0)] [] (put b pre s A L B post) (fun v H1 => M11 91 ls (v.toList ++ [.long u0]) H1 Q) := w_virt (as := [.int a0]) (rest := [.long u0]) (a := b) (show decode kb11 88 = .ok (.invokevirtual 307, 3) from by decide +kernel) cr11_307 put_o rfl rfl (Nat.le_of_ble_eq_true rfl) (by show 2 ≤ 2; omega) rfl
theorem m11_91 : M11 91 ls (.long J2 :: .long J1 :: st) H Q = M11 92 ls (.int (XT.cmpL J1 J2) :: st) H Q := w_x (show decode kb11 91 = .ok (.lcmp, 1) from by decide +kernel) rfl
theorem m11_92 : M11 92 ls (.int x :: st) H Q = if x = 0 then M11 95 ls st H Q else M11 100 ls st H Q := w_ifN (show decode kb11 92 = .ok (.ifCond .ne 8, 3) from by decide +kernel) (z_ne x) rfl
theorem m11_100 : M11 100 [l0, l1, l2, l3, l4, l5, .val (.long J1), l7, l8, l9] st H Q = M11 102 [l0, l1, l2, l3, l4, l5, .val (.long J1), l7, l8, l9] (.long J1 :: st) H Q := w_x (show decode kb11 100 = .ok (.lload 6, 2) from by decide +kernel) rfl
theorem m11_102 : M11 102 [.val (.ref r), l1, l2, l3, l4, l5, l6, l7, l8, l9] st H Q = M11 103 [.val (.ref r), l1, l2, l3, l4, l5, l6, l7, l8, l9] (.ref r :: st) H Q := w_x (show decode kb11 102 = .ok (.aload_n 0, 1) from by decide +kernel) rfl
theorem m11_103 : M11 103 ls st H Q = M11 105 ls (.int 12 :: st) H Q := w_con (show decode kb11 103 = .ok (.bipush 12, 2) from by decide +kernel) rfl (by decide)
theorem m11_105 (a0 : Int32) (u0 : Int64) : M11 105 ls [.int a0, .ref b, .long u0] (put b pre s A L B post) Q = M19 0 [.val (.ref b), .val (.int a0)] [] (put b pre s A L B post) (fun v H1 => M11 108 ls (v.toList ++ [.long u0]) H1 Q) := w_virt (as := [.int a0]) (rest := [.long u0]) (a := b) (show decode kb11 105 = .ok (.invokevirtual 307, 3) from by decide +kernel) cr11_307 put_o rfl rfl (Nat.le_of_ble_eq_true rfl) (by show 2 ≤ 2; omega) rfl
theorem m11_108 : M11 108 ls (.long J2 :: .long J1 :: st) H Q = M11 109 ls (.int (XT.cmpL J1 J2) :: st) H Q := w_x (show decode kb11 108 = .ok (.lcmp, 1) from by decide +kernel) rfl
theorem m11_109 : M11 109 ls (.int x :: st) H Q = if x = 0 then M11 112 ls st H Q else M11 117 ls st H Q := w_ifN (show decode kb11 109 = .ok (.ifCond .ne 8, 3) from by decide +kernel) (z_ne x) rfl
theorem m11_117 : M11 117 [.val (.ref r), l1, l2, l3, l4, l5, l6, l7, l8, l9] st H Q = M11 118 [.val (.ref r), l1, l2, l3, l4, l5, l6, l7, l8, l9] (.ref r :: st) H Q := w_x (show decode kb11 117 = .ok (.aload_n 0, 1) from by decide +kernel) rfl
theorem m11_118 : M11 118 [l0, l1, l2, .val (.long J1), l4, l5, l6, l7, l8, l9] st H Q = M11 119 [l0, l1, l2, .val (.long J1), l4, l5, l6, l7, l8, l9] (.long J1 :: st) H Q := w_x (show decode kb11 118 = .ok (.lload_n 3, 1) from by decide +kernel) rfl
theorem cr11_394 : vR tables_1 dn y11 394 = some (true, y21, prog_1_method_34_code, 4, (some .int), 1, 26) := pR_of (cR_of (by decide +kernel) rc_21 dn_21 dn_11 (sig := ⟨[.long], some .int⟩) (by decide +kernel) (by decide +kernel) rfl rfl) (by decide +kernel) (by decide +kernel)
theorem m11_119 (a0 : Int64) : M11 119 ls [.long a0, .ref b] (put b pre s A L B post) Q = M21 0 [.val (.ref b), .val (.long a0), .second, .unset] [] (put b pre s A L B post) (fun v H1 => M11 122 ls (v.toList ++ []) H1 Q) := w_virt (as := [.long a0]) (rest := []) (a := b) (show decode kb11 119 = .ok (.invokevirtual 394, 3) from by decide +kernel) cr11_394 put_o rfl rfl (Nat.le_of_ble_eq_true rfl) (by show 3 ≤ 4; omega) rfl
theorem m11_122u : M11 122 [l0, l1, l2, l3, l4, l5, l6, l7, .unset, l9] ((.int v) :: st) H Q = M11 124 [l0, l1, l2, l3, l4, l5, l6, l7, .val (.int v), l9] st H Q := w_st (i := 8) (p := isI) (show decode kb11 122 = .ok (.istore 8, 2) from by decide +kernel) rfl rfl rfl rfl rfl rfl
theorem m11_124 : M11 124 [l0, l1, l2, l3, l4, l5, l6, l7, .val (.int v), l9] st H Q = M11 126 [l0, l1, l2, l3, l4, l5, l6, l7, .val (.int v), l9] (.int v :: st) H Q := w_x (show decode kb11 124 = .ok (.iload 8, 2) from by decide +kernel) rfl
theorem m11_126 : M11 126 ls (.int x :: st) H Q = if x < 0 then M11 136 ls st H Q else M11 129 ls st H Q := w_if (show decode kb11 126 = .ok (.ifCond .lt 10, 3) from by decide +kernel) (z_lt x) rfl
theorem m11_129 : M11 129 [.val (.ref r), l1, l2, l3, l4, l5, l6, l7, l8, l9] st H Q = M11 130 [.val (.ref r), l1, l2, l3, l4, l5, l6, l7, l8, l9] (.ref r :: st) H Q := w_x (show decode kb11 129 = .ok (.aload_n 0, 1) from by decide +kernel) rfl
theorem m11_130 : M11 130 [l0, l1, l2, l3, l4, l5, l6, l7, .val (.int v), l9] st H Q = M11 132 [l0, l1, l2, l3, l4, l5, l6, l7, .val (.int v), l9] (.int v :: st) H Q := w_x (show decode kb11 130 = .ok (.iload 8, 2) from by decide +kernel) rfl
theorem cr11_412 : vR tables_1 dn y11 412 = some (true, y22, prog_1_method_58_code, 2, none, 1, 0) := pR_of (cR_of (by decide +kernel) rc_22 dn_22 dn_11 (sig := ⟨[.int], none⟩) (by decide +kernel) (by decide +kernel) rfl rfl) (by decide +kernel) (by decide +kernel)
theorem m11_132 (a0 : Int32) : M11 132 ls [.int a0, .ref b] (put b pre s A L B post) Q = M22 0 [.val (.ref b), .val (.int a0)] [] (put b pre s A L B post) (fun v H1 => M11 135 ls (v.toList ++ []) H1 Q) := w_virt (as := [.int a0]) (rest := []) (a := b) (show decode kb11 132 = .ok (.invokevirtual 412, 3) from by decide +kernel) cr11_412 put_o rfl rfl (Nat.le_of_ble_eq_true rfl) (by show 2 ≤ 2; omega) rfl
theorem m11_135 : M11 135 ls [] H Q = Q none H := w_vret (show decode kb11 135 = .ok (.return_, 1) from by decide +kernel) rfl
theorem m12_0 : M12 0 [.val (.ref r), l1, l2, l3] st H Q = M12 1 [.val (.ref r), l1, l2, l3] (.ref r :: st) H Q := w_x (show decode kb12 0 = .ok (.aload_n 0, 1) from by decide +kernel) rfl
theorem m12_1 : M12 1 ls st H Q = M12 2 ls (.int 0 :: st) H Q := w_con (show decode kb12 1 = .ok (.iconst 0, 1) from by decide +kernel) rfl (by decide)
theorem pf12_421 : pfR tables_1 y12.cls y12.name 421 = some ("MacroAssembler", 81, .boolean) := by decide +kernel
theorem m12_2 : M12 2 ls (.int v :: .ref b :: st) (put b pre s A L B post) Q = M12 5 ls st (put b pre (ou s 47 (nar .boolean v)) A L B post) Q := w_put (show decode kb12 2 = .ok (.putfield 421, 3) from by decide +kernel) pf12_421 put_o (Nat.zero_le _) (by show 81 < 85; omega) rfl put_s47
theorem m12_5 : M12 5 [.val (.ref r), l1, l2, l3] st H Q = M12 6 [.val (.ref r), l1, l2, l3] (.ref r :: st) H Q := w_x (show decode kb12 5 = .ok (.aload_n 0, 1) from by decide +kernel) rfl
theorem m12_6 : M12 6 ls st H Q = M12 7 ls (.int 0 :: st) H Q := w_con (show decode kb12 6 = .ok (.iconst 0, 1) from by decide +kernel) rfl (by decide)
theorem pf12_400 : pfR tables_1 y12.cls y12.name 400 = some ("MacroAssembler", 82, .int) := by decide +kernel
theorem m12_7 : M12 7 ls (.int v :: .ref b :: st) (put b pre s A L B post) Q = M12 10 ls st (put b pre (ou s 48 v) A L B post) Q := w_put (show decode kb12 7 = .ok (.putfield 400, 3) from by decide +kernel) pf12_400 put_o (Nat.zero_le _) (by show 82 < 85; omega) rfl put_s48
theorem m12_10 : M12 10 [.val (.ref r), l1, l2, l3] st H Q = M12 11 [.val (.ref r), l1, l2, l3] (.ref r :: st) H Q := w_x (show decode kb12 10 = .ok (.aload_n 0, 1) from by decide +kernel) rfl
theorem m12_11 : M12 11 ls st H Q = M12 12 ls (.int 0 :: st) H Q := w_con (show decode kb12 11 = .ok (.iconst 0, 1) from by decide +kernel) rfl (by decide)
theorem cr12_292 : vR tables_1 dn y12 292 = some (true, y13, prog_1_method_25_code, 4, (some .int), 1, 26) := pR_of (cR_of (by decide +kernel) rc_13 dn_13 dn_12 (sig := ⟨[.int], some .int⟩) (by decide +kernel) (by decide +kernel) rfl rfl) (by decide +kernel) (by decide +kernel)
theorem m12_12 (a0 : Int32) : M12 12 ls [.int a0, .ref b] (put b pre s A L B post) Q = M13 0 [.val (.ref b), .val (.int a0), .unset, .unset] [] (put b pre s A L B post) (fun v H1 => M12 15 ls (v.toList ++ []) H1 Q) := w_virt (as := [.int a0]) (rest := []) (a := b) (show decode kb12 12 = .ok (.invokevirtual 292, 3) from by decide +kernel) cr12_292 put_o rfl rfl (Nat.le_of_ble_eq_true rfl) (by show 2 ≤ 4; omega) rfl
theorem m12_15u : M12 15 [l0, .unset, l2, l3] ((.int v) :: st) H Q = M12 16 [l0, .val (.int v), l2, l3] st H Q := w_st (i := 1) (p := isI) (show decode kb12 15 = .ok (.istore_n 1, 1) from by decide +kernel) rfl rfl rfl rfl rfl rfl
theorem m12_16 : M12 16 [l0, .val (.int v), l2, l3] st H Q = M12 17 [l0, .val (.int v), l2, l3] (.int v :: st) H Q := w_x (show decode kb12 16 = .ok (.iload_n 1, 1) from by decide +kernel) rfl
theorem m12_17 : M12 17 [.val (.ref r), l1, l2, l3] st H Q = M12 18 [.val (.ref r), l1, l2, l3] (.ref r :: st) H Q := w_x (show decode kb12 17 = .ok (.aload_n 0, 1) from by decide +kernel) rfl
theorem m12_18 : M12 18 ls (.ref b :: st) (put b pre s A L B post) Q = M12 21 ls (.int (s 46) :: st) (put b pre s A L B post) Q := w_get (show decode kb12 18 = .ok (.getfield 274, 3) from by decide +kernel) gf_274 put_o rfl
theorem m12_21 : M12 21 ls (.int y :: .int x :: st) H Q = if x < y then M12 24 ls st H Q else M12 37 ls st H Q := w_icmpN (show decode kb12 21 = .ok (.if_icmp .ge 16, 3) from by decide +kernel) (i_ge x y) rfl
theorem m12_24 : M12 24 [.val (.ref r), l1, l2, l3] st H Q = M12 25 [.val (.ref r), l1, l2, l3] (.ref r :: st) H Q := w_x (show decode kb12 24 = .ok (.aload_n 0, 1) from by decide +kernel) rfl
theorem m12_25 : M12 25 [.val (.ref r), l1, l2, l3] st H Q = M12 26 [.val (.ref r), l1, l2, l3] (.ref r :: st) H Q := w_x (show decode kb12 25 = .ok (.aload_n 0, 1) from by decide +kernel) rfl
theorem m12_26 : M12 26 ls (.ref b :: st) (put b pre s A L B post) Q = M12 29 ls (.ref (b + 22) :: st) (put b pre s A L B post) Q := w_get (show decode kb12 26 = .ok (.getfield 140, 3) from by decide +kernel) gf_140 put_o rfl
theorem m12_29 : M12 29 [l0, .val (.int v), l2, l3] st H Q = M12 30 [l0, .val (.int v), l2, l3] (.int v :: st) H Q := w_x (show decode kb12 29 = .ok (.iload_n 1, 1) from by decide +kernel) rfl
theorem m12_30  : M12 30 ls (.int j :: .ref (b + 22) :: st) (put b pre s A L B post) Q = (inB j (A 19) ∧ M12 31 ls (.int (getA (A 19) j) :: st) (put b pre s A L B post) Q) := w_ild (show decode kb12 30 = .ok (.caload, 1) from by decide +kernel) rfl put_a19
theorem cr12_268 : vR tables_1 dn y12 268 = some (true, y14, prog_1_method_23_code, 2, (some .boolean), 1, 28) := pR_of (cR_of (by decide +kernel) rc_14 dn_14 dn_12 (sig := ⟨[.int], some .boolean⟩) (by decide +kernel) (by decide +kernel) rfl rfl) (by decide +kernel) (by decide +kernel)
theorem m12_31 (a0 : Int32) : M12 31 ls [.int a0, .ref b] (put b pre s A L B post) Q = M14 0 [.val (.ref b), .val (.int a0)] [] (put b pre s A L B post) (fun v H1 => M12 34 ls (v.toList ++ []) H1 Q) := w_virt (as := [.int a0]) (rest := []) (a := b) (show decode kb12 31 = .ok (.invokevirtual 268, 3) from by decide +kernel) cr12_268 put_o rfl rfl (Nat.le_of_ble_eq_true rfl) (by show 2 ≤ 2; omega) rfl
theorem m12_34 : M12 34 ls (.int x :: st) H Q = if x = 0 then M12 37 ls st H Q else M12 38 ls st H Q := w_ifN (show decode kb12 34 = .ok (.ifCond .ne 4, 3) from by decide +kernel) (z_ne x) rfl
theorem m12_38 : M12 38 [.val (.ref r), l1, l2, l3] st H Q = M12 39 [.val (.ref r), l1, l2, l3] (.ref r :: st) H Q := w_x (show decode kb12 38 = .ok (.aload_n 0, 1) from by decide +kernel) rfl
theorem m12_39 : M12 39 [l0, .val (.int v), l2, l3] st H Q = M12 40 [l0, .val (.int v), l2, l3] (.int v :: st) H Q := w_x (show decode kb12 39 = .ok (.iload_n 1, 1) from by decide +kernel) rfl
theorem cr12_284 : vR tables_1 dn y12 284 = some (true, y15, prog_1_method_26_code, 4, (some .int), 1, 0) := pR_of (cR_of (by decide +kernel) rc_15 dn_15 dn_12 (sig := ⟨[.int], some .int⟩) (by decide +kernel) (by decide +kernel) rfl rfl) (by decide +kernel) (by decide +kernel)
theorem m12_40 (a0 : Int32) : M12 40 ls [.int a0, .ref b] (put b pre s A L B post) Q = M15 0 [.val (.ref b), .val (.int a0), .unset, .unset] [] (put b pre s A L B post) (fun v H1 => M12 43 ls (v.toList ++ []) H1 Q) := w_virt (as := [.int a0]) (rest := []) (a := b) (show decode kb12 40 = .ok (.invokevirtual 284, 3) from by decide +kernel) cr12_284 put_o rfl rfl (Nat.le_of_ble_eq_true rfl) (by show 2 ≤ 4; omega) rfl
theorem m12_43u : M12 43 [l0, l1, .unset, l3] ((.int v) :: st) H Q = M12 44 [l0, l1, .val (.int v), l3] st H Q := w_st (i := 2) (p := isI) (show decode kb12 43 = .ok (.istore_n 2, 1) from by decide +kernel) rfl rfl rfl rfl rfl rfl
theorem m12_44 : M12 44 [.val (.ref r), l1, l2, l3] st H Q = M12 45 [.val (.ref r), l1, l2, l3] (.ref r :: st) H Q := w_x (show decode kb12 44 = .ok (.aload_n 0, 1) from by decide +kernel) rfl
theorem m12_45 : M12 45 [l0, l1, .val (.int v), l3] st H Q = M12 46 [l0, l1, .val (.int v), l3] (.int v :: st) H Q := w_x (show decode kb12 45 = .ok (.iload_n 2, 1) from by decide +kernel) rfl
theorem m12_46 (a0 : Int32) : M12 46 ls [.int a0, .ref b] (put b pre s A L B post) Q = M13 0 [.val (.ref b), .val (.int a0), .unset, .unset] [] (put b pre s A L B post) (fun v H1 => M12 49 ls (v.toList ++ []) H1 Q) := w_virt (as := [.int a0]) (rest := []) (a := b) (show decode kb12 46 = .ok (.invokevirtual 292, 3) from by decide +kernel) cr12_292 put_o rfl rfl (Nat.le_of_ble_eq_true rfl) (by show 2 ≤ 4; omega) rfl
theorem m12_49u : M12 49 [l0, l1, l2, .unset] ((.int v) :: st) H Q = M12 50 [l0, l1, l2, .val (.int v)] st H Q := w_st (i := 3) (p := isI) (show decode kb12 49 = .ok (.istore_n 3, 1) from by decide +kernel) rfl rfl rfl rfl rfl rfl
theorem m12_50 : M12 50 [l0, l1, l2, .val (.int v)] st H Q = M12 51 [l0, l1, l2, .val (.int v)] (.int v :: st) H Q := w_x (show decode kb12 50 = .ok (.iload_n 3, 1) from by decide +kernel) rfl
theorem m12_51 : M12 51 [.val (.ref r), l1, l2, l3] st H Q = M12 52 [.val (.ref r), l1, l2, l3] (.ref r :: st) H Q := w_x (show decode kb12 51 = .ok (.aload_n 0, 1) from by decide +kernel) rfl
theorem m12_52 : M12 52 ls (.ref b :: st) (put b pre s A L B post) Q = M12 55 ls (.int (s 46) :: st) (put b pre s A L B post) Q := w_get (show decode kb12 52 = .ok (.getfield 274, 3) from by decide +kernel) gf_274 put_o rfl
theorem m12_55 : M12 55 ls (.int y :: .int x :: st) H Q = if x < y then M12 58 ls st H Q else M12 91 ls st H Q := w_icmpN (show decode kb12 55 = .ok (.if_icmp .ge 36, 3) from by decide +kernel) (i_ge x y) rfl
theorem m12_91 : M12 91 ls [] H Q = Q none H := w_vret (show decode kb12 91 = .ok (.return_, 1) from by decide +kernel) rfl
theorem m13_0 : M13 0 [l0, .val (.int v), l2, l3] st H Q = M13 1 [l0, .val (.int v), l2, l3] (.int v :: st) H Q := w_x (show decode kb13 0 = .ok (.iload_n 1, 1) from by decide +kernel) rfl
theorem m13_1u : M13 1 [l0, l1, .unset, l3] ((.int v) :: st) H Q = M13 2 [l0, l1, .val (.int v), l3] st H Q := w_st (i := 2) (p := isI) (show decode kb13 1 = .ok (.istore_n 2, 1) from by decide +kernel) rfl rfl rfl rfl rfl rfl
theorem m13_2 : M13 2 ls st H Q = M13 3 ls (.int 0 :: st) H Q := w_con (show decode kb13 2 = .ok (.iconst 0, 1) from by decide +kernel) rfl (by decide)
theorem m13_3u : M13 3 [l0, l1, l2, .unset] ((.int v) :: st) H Q = M13 4 [l0, l1, l2, .val (.int v)] st H Q := w_st (i := 3) (p := isI) (show decode kb13 3 = .ok (.istore_n 3, 1) from by decide +kernel) rfl rfl rfl rfl rfl rfl
theorem m13_4 : M13 4 [l0, l1, l2, .val (.int v)] st H Q = M13 5 [l0, l1, l2, .val (.int v)] (.int v :: st) H Q := w_x (show decode kb13 4 = .ok (.iload_n 3, 1) from by decide +kernel) rfl
theorem m13_5 : M13 5 ls st H Q = M13 8 ls (.int 641 :: st) H Q := w_con (show decode kb13 5 = .ok (.sipush 641, 3) from by decide +kernel) rfl (by decide)
theorem m13_8 : M13 8 ls (.int y :: .int x :: st) H Q = if x < y then M13 11 ls st H Q else M13 39 ls st H Q := w_icmpN (show decode kb13 8 = .ok (.if_icmp .ge 31, 3) from by decide +kernel) (i_ge x y) rfl
theorem m13_11 : M13 11 [l0, l1, .val (.int v), l3] st H Q = M13 12 [l0, l1, .val (.int v), l3] (.int v :: st) H Q := w_x (show decode kb13 11 = .ok (.iload_n 2, 1) from by decide +kernel) rfl
theorem m13_12 : M13 12 [.val (.ref r), l1, l2, l3] st H Q = M13 13 [.val (.ref r), l1, l2, l3] (.ref r :: st) H Q := w_x (show decode kb13 12 = .ok (.aload_n 0, 1) from by decide +kernel) rfl
theorem m13_13 : M13 13 ls (.ref b :: st) (put b pre s A L B post) Q = M13 16 ls (.int (s 46) :: st) (put b pre s A L B post) Q := w_get (show decode kb13 13 = .ok (.getfield 274, 3) from by decide +kernel) gf_274 put_o rfl
theorem m13_16 : M13 16 ls (.int y :: .int x :: st) H Q = if x < y then M13 19 ls st H Q else M13 39 ls st H Q := w_icmpN (show decode kb13 16 = .ok (.if_icmp .ge 23, 3) from by decide +kernel) (i_ge x y) rfl
theorem m13_19 : M13 19 [.val (.ref r), l1, l2, l3] st H Q = M13 20 [.val (.ref r), l1, l2, l3] (.ref r :: st) H Q := w_x (show decode kb13 19 = .ok (.aload_n 0, 1) from by decide +kernel) rfl
theorem m13_20 : M13 20 ls (.ref b :: st) (put b pre s A L B post) Q = M13 23 ls (.ref (b + 22) :: st) (put b pre s A L B post) Q := w_get (show decode kb13 20 = .ok (.getfield 140, 3) from by decide +kernel) gf_140 put_o rfl
theorem m13_23 : M13 23 [l0, l1, .val (.int v), l3] st H Q = M13 24 [l0, l1, .val (.int v), l3] (.int v :: st) H Q := w_x (show decode kb13 23 = .ok (.iload_n 2, 1) from by decide +kernel) rfl
theorem m13_24  : M13 24 ls (.int j :: .ref (b + 22) :: st) (put b pre s A L B post) Q = (inB j (A 19) ∧ M13 25 ls (.int (getA (A 19) j) :: st) (put b pre s A L B post) Q) := w_ild (show decode kb13 24 = .ok (.caload, 1) from by decide +kernel) rfl put_a19
theorem m13_25 : M13 25 ls st H Q = M13 27 ls (.int 32 :: st) H Q := w_con (show decode kb13 25 = .ok (.bipush 32, 2) from by decide +kernel) rfl (by decide)
theorem m13_27 : M13 27 ls (.int y :: .int x :: st) H Q = if x = y then M13 30 ls st H Q else M13 39 ls st H Q := w_icmpN (show decode kb13 27 = .ok (.if_icmp .ne 12, 3) from by decide +kernel) (i_ne x y) rfl
theorem m13_39 : M13 39 [l0, l1, .val (.int v), l3] st H Q = M13 40 [l0, l1, .val (.int v), l3] (.int v :: st) H Q := w_x (show decode kb13 39 = .ok (.iload_n 2, 1) from by decide +kernel) rfl
theorem m13_40 : M13 40 ls (.int z :: st) H Q = Q (some (.int z)) H := w_iret (show decode kb13 40 = .ok (.ireturn, 1) from by decide +kernel) rfl
theorem m14_0 : M14 0 [l0, .val (.int v)] st H Q = M14 1 [l0, .val (.int v)] (.int v :: st) H Q := w_x (show decode kb14 0 = .ok (.iload_n 1, 1) from by decide +kernel) rfl
theorem m14_1 : M14 1 ls st H Q = M14 3 ls (.int 65 :: st) H Q := w_con (show decode kb14 1 = .ok (.bipush 65, 2) from by decide +kernel) rfl (by decide)
theorem m14_3 : M14 3 ls (.int y :: .int x :: st) H Q = if x < y then M14 12 ls st H Q else M14 6 ls st H Q := w_icmp (show decode kb14 3 = .ok (.if_icmp .lt 9, 3) from by decide +kernel) (i_lt x y) rfl
theorem m14_6 : M14 6 [l0, .val (.int v)] st H Q = M14 7 [l0, .val (.int v)] (.int v :: st) H Q := w_x (show decode kb14 6 = .ok (.iload_n 1, 1) from by decide +kernel) rfl
theorem m14_7 : M14 7 ls st H Q = M14 9 ls (.int 90 :: st) H Q := w_con (show decode kb14 7 = .ok (.bipush 90, 2) from by decide +kernel) rfl (by decide)
theorem m14_9 : M14 9 ls (.int y :: .int x :: st) H Q = if y < x then M14 12 ls st H Q else M14 30 ls st H Q := w_icmpN (show decode kb14 9 = .ok (.if_icmp .le 21, 3) from by decide +kernel) (i_le x y) rfl
theorem m14_30 : M14 30 ls st H Q = M14 31 ls (.int 1 :: st) H Q := w_con (show decode kb14 30 = .ok (.iconst 1, 1) from by decide +kernel) rfl (by decide)
theorem m14_31 : M14 31 ls st H Q = M14 35 ls st H Q := w_x (show decode kb14 31 = .ok (.goto 4, 3) from by decide +kernel) rfl
theorem m14_35 : M14 35 ls (.int z :: st) H Q = Q (some (.int (nar .boolean z))) H := w_iretN (show decode kb14 35 = .ok (.ireturn, 1) from by decide +kernel) rfl (by simp)
theorem m15_0 : M15 0 [l0, .val (.int v), l2, l3] st H Q = M15 1 [l0, .val (.int v), l2, l3] (.int v :: st) H Q := w_x (show decode kb15 0 = .ok (.iload_n 1, 1) from by decide +kernel) rfl
theorem m15_1u : M15 1 [l0, l1, .unset, l3] ((.int v) :: st) H Q = M15 2 [l0, l1, .val (.int v), l3] st H Q := w_st (i := 2) (p := isI) (show decode kb15 1 = .ok (.istore_n 2, 1) from by decide +kernel) rfl rfl rfl rfl rfl rfl
theorem m15_2 : M15 2 ls st H Q = M15 3 ls (.int 0 :: st) H Q := w_con (show decode kb15 2 = .ok (.iconst 0, 1) from by decide +kernel) rfl (by decide)
theorem m15_3u : M15 3 [l0, l1, l2, .unset] ((.int v) :: st) H Q = M15 4 [l0, l1, l2, .val (.int v)] st H Q := w_st (i := 3) (p := isI) (show decode kb15 3 = .ok (.istore_n 3, 1) from by decide +kernel) rfl rfl rfl rfl rfl rfl
theorem m15_4 : M15 4 [l0, l1, l2, .val (.int v)] st H Q = M15 5 [l0, l1, l2, .val (.int v)] (.int v :: st) H Q := w_x (show decode kb15 4 = .ok (.iload_n 3, 1) from by decide +kernel) rfl
theorem m15_5 : M15 5 ls st H Q = M15 8 ls (.int 641 :: st) H Q := w_con (show decode kb15 5 = .ok (.sipush 641, 3) from by decide +kernel) rfl (by decide)
theorem m15_8 : M15 8 ls (.int y :: .int x :: st) H Q = if x < y then M15 11 ls st H Q else M15 41 ls st H Q := w_icmpN (show decode kb15 8 = .ok (.if_icmp .ge 33, 3) from by decide +kernel) (i_ge x y) rfl
theorem m15_11 : M15 11 [l0, l1, .val (.int v), l3] st H Q = M15 12 [l0, l1, .val (.int v), l3] (.int v :: st) H Q := w_x (show decode kb15 11 = .ok (.iload_n 2, 1) from by decide +kernel) rfl
theorem m15_12 : M15 12 [.val (.ref r), l1, l2, l3] st H Q = M15 13 [.val (.ref r), l1, l2, l3] (.ref r :: st) H Q := w_x (show decode kb15 12 = .ok (.aload_n 0, 1) from by decide +kernel) rfl
theorem m15_13 : M15 13 ls (.ref b :: st) (put b pre s A L B post) Q = M15 16 ls (.int (s 46) :: st) (put b pre s A L B post) Q := w_get (show decode kb15 13 = .ok (.getfield 274, 3) from by decide +kernel) gf_274 put_o rfl
theorem m15_16 : M15 16 ls (.int y :: .int x :: st) H Q = if x < y then M15 19 ls st H Q else M15 41 ls st H Q := w_icmpN (show decode kb15 16 = .ok (.if_icmp .ge 25, 3) from by decide +kernel) (i_ge x y) rfl
theorem m15_19 : M15 19 [.val (.ref r), l1, l2, l3] st H Q = M15 20 [.val (.ref r), l1, l2, l3] (.ref r :: st) H Q := w_x (show decode kb15 19 = .ok (.aload_n 0, 1) from by decide +kernel) rfl
theorem m15_20 : M15 20 [.val (.ref r), l1, l2, l3] st H Q = M15 21 [.val (.ref r), l1, l2, l3] (.ref r :: st) H Q := w_x (show decode kb15 20 = .ok (.aload_n 0, 1) from by decide +kernel) rfl
theorem m15_21 : M15 21 ls (.ref b :: st) (put b pre s A L B post) Q = M15 24 ls (.ref (b + 22) :: st) (put b pre s A L B post) Q := w_get (show decode kb15 21 = .ok (.getfield 140, 3) from by decide +kernel) gf_140 put_o rfl
theorem m15_24 : M15 24 [l0, l1, .val (.int v), l3] st H Q = M15 25 [l0, l1, .val (.int v), l3] (.int v :: st) H Q := w_x (show decode kb15 24 = .ok (.iload_n 2, 1) from by decide +kernel) rfl
theorem m15_25  : M15 25 ls (.int j :: .ref (b + 22) :: st) (put b pre s A L B post) Q = (inB j (A 19) ∧ M15 26 ls (.int (getA (A 19) j) :: st) (put b pre s A L B post) Q) := w_ild (show decode kb15 25 = .ok (.caload, 1) from by decide +kernel) rfl put_a19
theorem cr15_277 : vR tables_1 dn y15 277 = some (true, y16, prog_1_method_24_code, 2, (some .boolean), 1, 0) := pR_of (cR_of (by decide +kernel) rc_16 dn_16 dn_15 (sig := ⟨[.int], some .boolean⟩) (by decide +kernel) (by decide +kernel) rfl rfl) (by decide +kernel) (by decide +kernel)
theorem m15_26 (a0 : Int32) : M15 26 ls [.int a0, .ref b] (put b pre s A L B post) Q = M16 0 [.val (.ref b), .val (.int a0)] [] (put b pre s A L B post) (fun v H1 => M15 29 ls (v.toList ++ []) H1 Q) := w_virt (as := [.int a0]) (rest := []) (a := b) (show decode kb15 26 = .ok (.invokevirtual 277, 3) from by decide +kernel) cr15_277 put_o rfl rfl (Nat.le_of_ble_eq_true rfl) (by show 2 ≤ 2; omega) rfl
theorem m15_29 : M15 29 ls (.int x :: st) H Q = if x = 0 then M15 41 ls st H Q else M15 32 ls st H Q := w_if (show decode kb15 29 = .ok (.ifCond .eq 12, 3) from by decide +kernel) (z_eq x) rfl
theorem m15_32 : M15 32 [l0, l1, .val (.int v), l3] st H Q = M15 35 [l0, l1, .val (.int (v + 1)), l3] st H Q := w_iinc (show decode kb15 32 = .ok (.iinc 2 1, 3) from by decide +kernel) rfl (by decide) rfl
theorem m15_35 : M15 35 [l0, l1, l2, .val (.int v)] st H Q = M15 38 [l0, l1, l2, .val (.int (v + 1))] st H Q := w_iinc (show decode kb15 35 = .ok (.iinc 3 1, 3) from by decide +kernel) rfl (by decide) rfl
theorem m15_38 : M15 38 ls st H Q = M15 4 ls st H Q := w_x (show decode kb15 38 = .ok (.goto (-34), 3) from by decide +kernel) rfl
theorem m15_41 : M15 41 [l0, l1, .val (.int v), l3] st H Q = M15 42 [l0, l1, .val (.int v), l3] (.int v :: st) H Q := w_x (show decode kb15 41 = .ok (.iload_n 2, 1) from by decide +kernel) rfl
theorem m15_42 : M15 42 ls (.int z :: st) H Q = Q (some (.int z)) H := w_iret (show decode kb15 42 = .ok (.ireturn, 1) from by decide +kernel) rfl
theorem m16_0 : M16 0 [.val (.ref r), l1] st H Q = M16 1 [.val (.ref r), l1] (.ref r :: st) H Q := w_x (show decode kb16 0 = .ok (.aload_n 0, 1) from by decide +kernel) rfl
theorem m16_1 : M16 1 [l0, .val (.int v)] st H Q = M16 2 [l0, .val (.int v)] (.int v :: st) H Q := w_x (show decode kb16 1 = .ok (.iload_n 1, 1) from by decide +kernel) rfl
theorem cr16_268 : vR tables_1 dn y16 268 = some (true, y14, prog_1_method_23_code, 2, (some .boolean), 1, 0) := pR_of (cR_of (by decide +kernel) rc_14 dn_14 dn_16 (sig := ⟨[.int], some .boolean⟩) (by decide +kernel) (by decide +kernel) rfl rfl) (by decide +kernel) (by decide +kernel)
theorem m16_2 (a0 : Int32) : M16 2 ls [.int a0, .ref b] (put b pre s A L B post) Q = M14 0 [.val (.ref b), .val (.int a0)] [] (put b pre s A L B post) (fun v H1 => M16 5 ls (v.toList ++ []) H1 Q) := w_virt (as := [.int a0]) (rest := []) (a := b) (show decode kb16 2 = .ok (.invokevirtual 268, 3) from by decide +kernel) cr16_268 put_o rfl rfl (Nat.le_of_ble_eq_true rfl) (by show 2 ≤ 2; omega) rfl
theorem m16_5 : M16 5 ls (.int x :: st) H Q = if x = 0 then M16 8 ls st H Q else M16 16 ls st H Q := w_ifN (show decode kb16 5 = .ok (.ifCond .ne 11, 3) from by decide +kernel) (z_ne x) rfl
theorem m16_16 : M16 16 ls st H Q = M16 17 ls (.int 1 :: st) H Q := w_con (show decode kb16 16 = .ok (.iconst 1, 1) from by decide +kernel) rfl (by decide)
theorem m16_17 : M16 17 ls st H Q = M16 21 ls st H Q := w_x (show decode kb16 17 = .ok (.goto 4, 3) from by decide +kernel) rfl
theorem m16_21 : M16 21 ls (.int z :: st) H Q = Q (some (.int (nar .boolean z))) H := w_iretN (show decode kb16 21 = .ok (.ireturn, 1) from by decide +kernel) rfl (by simp)
theorem m17_0 : M17 0 [l0, l1, .val (.int v), l3, l4, l5] st H Q = M17 1 [l0, l1, .val (.int v), l3, l4, l5] (.int v :: st) H Q := w_x (show decode kb17 0 = .ok (.iload_n 2, 1) from by decide +kernel) rfl
theorem m17_1 : M17 1 [l0, .val (.int v), l2, l3, l4, l5] st H Q = M17 2 [l0, .val (.int v), l2, l3, l4, l5] (.int v :: st) H Q := w_x (show decode kb17 1 = .ok (.iload_n 1, 1) from by decide +kernel) rfl
theorem m17_2 : M17 2 ls (.int y :: .int x :: st) H Q = M17 3 ls (.int (x - y) :: st) H Q := w_x (show decode kb17 2 = .ok (.isub, 1) from by decide +kernel) rfl
theorem m17_3 : M17 3 ls st H Q = M17 5 ls (.int 8 :: st) H Q := w_con (show decode kb17 3 = .ok (.bipush 8, 2) from by decide +kernel) rfl (by decide)
theorem m17_5 : M17 5 ls (.int y :: .int x :: st) H Q = if y < x then M17 13 ls st H Q else M17 8 ls st H Q := w_icmp (show decode kb17 5 = .ok (.if_icmp .gt 8, 3) from by decide +kernel) (i_gt x y) rfl
theorem m17_8 : M17 8 [l0, l1, .val (.int v), l3, l4, l5] st H Q = M17 9 [l0, l1, .val (.int v), l3, l4, l5] (.int v :: st) H Q := w_x (show decode kb17 8 = .ok (.iload_n 2, 1) from by decide +kernel) rfl
theorem m17_9 : M17 9 [l0, .val (.int v), l2, l3, l4, l5] st H Q = M17 10 [l0, .val (.int v), l2, l3, l4, l5] (.int v :: st) H Q := w_x (show decode kb17 9 = .ok (.iload_n 1, 1) from by decide +kernel) rfl
theorem m17_10 : M17 10 ls (.int y :: .int x :: st) H Q = if y < x then M17 17 ls st H Q else M17 13 ls st H Q := w_icmp (show decode kb17 10 = .ok (.if_icmp .gt 7, 3) from by decide +kernel) (i_gt x y) rfl
theorem m17_17 : M17 17 ls st H Q = M17 18 ls (.long 0 :: st) H Q := w_con (show decode kb17 17 = .ok (.lconst 0, 1) from by decide +kernel) rfl (by decide)
theorem m17_18 : M17 18 [l0, l1, l2, .unset, .unset, l5] (.long J1 :: st) H Q = M17 19 [l0, l1, l2, .val (.long J1), .second, l5] st H Q := w_x (show decode kb17 18 = .ok (.lstore_n 3, 1) from by decide +kernel) rfl
theorem m17_19 : M17 19 [l0, .val (.int v), l2, l3, l4, l5] st H Q = M17 20 [l0, .val (.int v), l2, l3, l4, l5] (.int v :: st) H Q := w_x (show decode kb17 19 = .ok (.iload_n 1, 1) from by decide +kernel) rfl
theorem m17_20u : M17 20 [l0, l1, l2, l3, l4, .unset] ((.int v) :: st) H Q = M17 22 [l0, l1, l2, l3, l4, .val (.int v)] st H Q := w_st (i := 5) (p := isI) (show decode kb17 20 = .ok (.istore 5, 2) from by decide +kernel) rfl rfl rfl rfl rfl rfl
theorem m17_22 : M17 22 [l0, l1, l2, l3, l4, .val (.int v)] st H Q = M17 24 [l0, l1, l2, l3, l4, .val (.int v)] (.int v :: st) H Q := w_x (show decode kb17 22 = .ok (.iload 5, 2) from by decide +kernel) rfl
theorem m17_24 : M17 24 [l0, l1, .val (.int v), l3, l4, l5] st H Q = M17 25 [l0, l1, .val (.int v), l3, l4, l5] (.int v :: st) H Q := w_x (show decode kb17 24 = .ok (.iload_n 2, 1) from by decide +kernel) rfl
theorem m17_25 : M17 25 ls (.int y :: .int x :: st) H Q = if x < y then M17 28 ls st H Q else M17 58 ls st H Q := w_icmpN (show decode kb17 25 = .ok (.if_icmp .ge 33, 3) from by decide +kernel) (i_ge x y) rfl
theorem m17_28 : M17 28 [l0, l1, l2, l3, l4, .val (.int v)] st H Q = M17 30 [l0, l1, l2, l3, l4, .val (.int v)] (.int v :: st) H Q := w_x (show decode kb17 28 = .ok (.iload 5, 2) from by decide +kernel) rfl
theorem m17_30 : M17 30 [.val (.ref r), l1, l2, l3, l4, l5] st H Q = M17 31 [.val (.ref r), l1, l2, l3, l4, l5] (.ref r :: st) H Q := w_x (show decode kb17 30 = .ok (.aload_n 0, 1) from by decide +kernel) rfl
theorem m17_31 : M17 31 ls (.ref b :: st) (put b pre s A L B post) Q = M17 34 ls (.int (s 46) :: st) (put b pre s A L B post) Q := w_get (show decode kb17 31 = .ok (.getfield 274, 3) from by decide +kernel) gf_274 put_o rfl
theorem m17_34 : M17 34 ls (.int y :: .int x :: st) H Q = if x < y then M17 37 ls st H Q else M17 58 ls st H Q := w_icmpN (show decode kb17 34 = .ok (.if_icmp .ge 24, 3) from by decide +kernel) (i_ge x y) rfl
theorem m17_37 : M17 37 [l0, l1, l2, .val (.long J1), l4, l5] st H Q = M17 38 [l0, l1, l2, .val (.long J1), l4, l5] (.long J1 :: st) H Q := w_x (show decode kb17 37 = .ok (.lload_n 3, 1) from by decide +kernel) rfl
theorem m17_38 : M17 38 ls st H Q = M17 41 ls (.long 128 :: st) H Q := w_ldc2 (show decode kb17 38 = .ok (.ldc2_w 282, 3) from by decide +kernel) (by decide +kernel)
theorem m17_41 : M17 41 ls (.long J2 :: .long J1 :: st) H Q = M17 42 ls (.long (J1 * J2) :: st) H Q := w_x (show decode kb17 41 = .ok (.lmul, 1) from by decide +kernel) rfl
theorem m17_42 : M17 42 [.val (.ref r), l1, l2, l3, l4, l5] st H Q = M17 43 [.val (.ref r), l1, l2, l3, l4, l5] (.ref r :: st) H Q := w_x (show decode kb17 42 = .ok (.aload_n 0, 1) from by decide +kernel) rfl
theorem m17_43 : M17 43 ls (.ref b :: st) (put b pre s A L B post) Q = M17 46 ls (.ref (b + 22) :: st) (put b pre s A L B post) Q := w_get (show decode kb17 43 = .ok (.getfield 140, 3) from by decide +kernel) gf_140 put_o rfl
theorem m17_46 : M17 46 [l0, l1, l2, l3, l4, .val (.int v)] st H Q = M17 48 [l0, l1, l2, l3, l4, .val (.int v)] (.int v :: st) H Q := w_x (show decode kb17 46 = .ok (.iload 5, 2) from by decide +kernel) rfl
theorem m17_48  : M17 48 ls (.int j :: .ref (b + 22) :: st) (put b pre s A L B post) Q = (inB j (A 19) ∧ M17 49 ls (.int (getA (A 19) j) :: st) (put b pre s A L B post) Q) := w_ild (show decode kb17 48 = .ok (.caload, 1) from by decide +kernel) rfl put_a19
theorem m17_49 : M17 49 ls (.int x :: st) H Q = M17 50 ls (.long x.toInt64 :: st) H Q := w_x (show decode kb17 49 = .ok (.i2l, 1) from by decide +kernel) rfl
theorem m17_50 : M17 50 ls (.long J2 :: .long J1 :: st) H Q = M17 51 ls (.long (J1 + J2) :: st) H Q := w_x (show decode kb17 50 = .ok (.ladd, 1) from by decide +kernel) rfl
theorem m17_51 : M17 51 [l0, l1, l2, .val (.long J2), .second, l5] (.long J1 :: st) H Q = M17 52 [l0, l1, l2, .val (.long J1), .second, l5] st H Q := w_x (show decode kb17 51 = .ok (.lstore_n 3, 1) from by decide +kernel) rfl
theorem m17_52 : M17 52 [l0, l1, l2, l3, l4, .val (.int v)] st H Q = M17 55 [l0, l1, l2, l3, l4, .val (.int (v + 1))] st H Q := w_iinc (show decode kb17 52 = .ok (.iinc 5 1, 3) from by decide +kernel) rfl (by decide) rfl
theorem m17_55 : M17 55 ls st H Q = M17 22 ls st H Q := w_x (show decode kb17 55 = .ok (.goto (-33), 3) from by decide +kernel) rfl
theorem m17_58 : M17 58 [l0, l1, l2, .val (.long J1), l4, l5] st H Q = M17 59 [l0, l1, l2, .val (.long J1), l4, l5] (.long J1 :: st) H Q := w_x (show decode kb17 58 = .ok (.lload_n 3, 1) from by decide +kernel) rfl
theorem m17_59 : M17 59 ls [.long J1] H Q = Q (some (.long J1)) H := w_lret (show decode kb17 59 = .ok (.lreturn, 1) from by decide +kernel) rfl
theorem m18_0 : M18 0 [l0, .val (.int v), l2] st H Q = M18 1 [l0, .val (.int v), l2] (.int v :: st) H Q := w_x (show decode kb18 0 = .ok (.iload_n 1, 1) from by decide +kernel) rfl
theorem m18_1 : M18 1 ls (.int x :: st) H Q = if x < 0 then M18 25 ls st H Q else M18 4 ls st H Q := w_if (show decode kb18 1 = .ok (.ifCond .lt 24, 3) from by decide +kernel) (z_lt x) rfl
theorem m18_4 : M18 4 [l0, .val (.int v), l2] st H Q = M18 5 [l0, .val (.int v), l2] (.int v :: st) H Q := w_x (show decode kb18 4 = .ok (.iload_n 1, 1) from by decide +kernel) rfl
theorem m18_5 : M18 5 [.val (.ref r), l1, l2] st H Q = M18 6 [.val (.ref r), l1, l2] (.ref r :: st) H Q := w_x (show decode kb18 5 = .ok (.aload_n 0, 1) from by decide +kernel) rfl
theorem m18_6 : M18 6 ls (.ref b :: st) (put b pre s A L B post) Q = M18 9 ls (.int (s 46) :: st) (put b pre s A L B post) Q := w_get (show decode kb18 6 = .ok (.getfield 274, 3) from by decide +kernel) gf_274 put_o rfl
theorem m18_9 : M18 9 ls (.int y :: .int x :: st) H Q = if x < y then M18 12 ls st H Q else M18 25 ls st H Q := w_icmpN (show decode kb18 9 = .ok (.if_icmp .ge 16, 3) from by decide +kernel) (i_ge x y) rfl
theorem m18_25 : M18 25 ls st H Q = M18 28 ls (.long (-1) :: st) H Q := w_ldc2 (show decode kb18 25 = .ok (.ldc2_w 280, 3) from by decide +kernel) (by decide +kernel)
theorem m18_28 : M18 28 ls [.long J1] H Q = Q (some (.long J1)) H := w_lret (show decode kb18 28 = .ok (.lreturn, 1) from by decide +kernel) rfl
theorem m19_0 : M19 0 [l0, .val (.int v)] st H Q = M19 1 [l0, .val (.int v)] (.int v :: st) H Q := w_x (show decode kb19 0 = .ok (.iload_n 1, 1) from by decide +kernel) rfl
theorem m19_1_0 : M19 1 ls (.int 0 :: st) H Q = M19 92 ls st H Q := w_x (show decode kb19 1 = .ok (.tableswitch 343 0 18 #[91, 104, 117, 130, 143, 156, 169, 182, 195, 208, 220, 232, 245, 260, 274, 286, 300, 315, 329], 91) from by decide +kernel) rfl
theorem m19_1_1 : M19 1 ls (.int 1 :: st) H Q = M19 105 ls st H Q := w_x (show decode kb19 1 = .ok (.tableswitch 343 0 18 #[91, 104, 117, 130, 143, 156, 169, 182, 195, 208, 220, 232, 245, 260, 274, 286, 300, 315, 329], 91) from by decide +kernel) rfl
theorem m19_1_2 : M19 1 ls (.int 2 :: st) H Q = M19 118 ls st H Q := w_x (show decode kb19 1 = .ok (.tableswitch 343 0 18 #[91, 104, 117, 130, 143, 156, 169, 182, 195, 208, 220, 232, 245, 260, 274, 286, 300, 315, 329], 91) from by decide +kernel) rfl
theorem m19_1_3 : M19 1 ls (.int 3 :: st) H Q = M19 131 ls st H Q := w_x (show decode kb19 1 = .ok (.tableswitch 343 0 18 #[91, 104, 117, 130, 143, 156, 169, 182, 195, 208, 220, 232, 245, 260, 274, 286, 300, 315, 329], 91) from by decide +kernel) rfl
theorem m19_1_4 : M19 1 ls (.int 4 :: st) H Q = M19 144 ls st H Q := w_x (show decode kb19 1 = .ok (.tableswitch 343 0 18 #[91, 104, 117, 130, 143, 156, 169, 182, 195, 208, 220, 232, 245, 260, 274, 286, 300, 315, 329], 91) from by decide +kernel) rfl
theorem m19_1_5 : M19 1 ls (.int 5 :: st) H Q = M19 157 ls st H Q := w_x (show decode kb19 1 = .ok (.tableswitch 343 0 18 #[91, 104, 117, 130, 143, 156, 169, 182, 195, 208, 220, 232, 245, 260, 274, 286, 300, 315, 329], 91) from by decide +kernel) rfl
theorem m19_1_6 : M19 1 ls (.int 6 :: st) H Q = M19 170 ls st H Q := w_x (show decode kb19 1 = .ok (.tableswitch 343 0 18 #[91, 104, 117, 130, 143, 156, 169, 182, 195, 208, 220, 232, 245, 260, 274, 286, 300, 315, 329], 91) from by decide +kernel) rfl
theorem m19_1_7 : M19 1 ls (.int 7 :: st) H Q = M19 183 ls st H Q := w_x (show decode kb19 1 = .ok (.tableswitch 343 0 18 #[91, 104, 117, 130, 143, 156, 169, 182, 195, 208, 220, 232, 245, 260, 274, 286, 300, 315, 329], 91) from by decide +kernel) rfl
theorem m19_1_8 : M19 1 ls (.int 8 :: st) H Q = M19 196 ls st H Q := w_x (show decode kb19 1 = .ok (.tableswitch 343 0 18 #[91, 104, 117, 130, 143, 156, 169, 182, 195, 208, 220, 232, 245, 260, 274, 286, 300, 315, 329], 91) from by decide +kernel) rfl
theorem m19_1_9 : M19 1 ls (.int 9 :: st) H Q = M19 209 ls st H Q := w_x (show decode kb19 1 = .ok (.tableswitch 343 0 18 #[91, 104, 117, 130, 143, 156, 169, 182, 195, 208, 220, 232, 245, 260, 274, 286, 300, 315, 329], 91) from by decide +kernel) rfl
theorem m19_1_10 : M19 1 ls (.int 10 :: st) H Q = M19 221 ls st H Q := w_x (show decode kb19 1 = .ok (.tableswitch 343 0 18 #[91, 104, 117, 130, 143, 156, 169, 182, 195, 208, 220, 232, 245, 260, 274, 286, 300, 315, 329], 91) from by decide +kernel) rfl
theorem m19_1_11 : M19 1 ls (.int 11 :: st) H Q = M19 233 ls st H Q := w_x (show decode kb19 1 = .ok (.tableswitch 343 0 18 #[91, 104, 117, 130, 143, 156, 169, 182, 195, 208, 220, 232, 245, 260, 274, 286, 300, 315, 329], 91) from by decide +kernel) rfl
theorem m19_1_12 : M19 1 ls (.int 12 :: st) H Q = M19 246 ls st H Q := w_x (show decode kb19 1 = .ok (.tableswitch 343 0 18 #[91, 104, 117, 130, 143, 156, 169, 182, 195, 208, 220, 232, 245, 260, 274, 286, 300, 315, 329], 91) from by decide +kernel) rfl
theorem m19_1_13 : M19 1 ls (.int 13 :: st) H Q = M19 261 ls st H Q := w_x (show decode kb19 1 = .ok (.tableswitch 343 0 18 #[91, 104, 117, 130, 143, 156, 169, 182, 195, 208, 220, 232, 245, 260, 274, 286, 300, 315, 329], 91) from by decide +kernel) rfl
theorem m19_1_14 : M19 1 ls (.int 14 :: st) H Q = M19 275 ls st H Q := w_x (show decode kb19 1 = .ok (.tableswitch 343 0 18 #[91, 104, 117, 130, 143, 156, 169, 182, 195, 208, 220, 232, 245, 260, 274, 286, 300, 315, 329], 91) from by decide +kernel) rfl
theorem m19_1_15 : M19 1 ls (.int 15 :: st) H Q = M19 287 ls st H Q := w_x (show decode kb19 1 = .ok (.tableswitch 343 0 18 #[91, 104, 117, 130, 143, 156, 169, 182, 195, 208, 220, 232, 245, 260, 274, 286, 300, 315, 329], 91) from by decide +kernel) rfl
theorem m19_1_16 : M19 1 ls (.int 16 :: st) H Q = M19 301 ls st H Q := w_x (show decode kb19 1 = .ok (.tableswitch 343 0 18 #[91, 104, 117, 130, 143, 156, 169, 182, 195, 208, 220, 232, 245, 260, 274, 286, 300, 315, 329], 91) from by decide +kernel) rfl
theorem m19_1_17 : M19 1 ls (.int 17 :: st) H Q = M19 316 ls st H Q := w_x (show decode kb19 1 = .ok (.tableswitch 343 0 18 #[91, 104, 117, 130, 143, 156, 169, 182, 195, 208, 220, 232, 245, 260, 274, 286, 300, 315, 329], 91) from by decide +kernel) rfl
theorem m19_1_18 : M19 1 ls (.int 18 :: st) H Q = M19 330 ls st H Q := w_x (show decode kb19 1 = .ok (.tableswitch 343 0 18 #[91, 104, 117, 130, 143, 156, 169, 182, 195, 208, 220, 232, 245, 260, 274, 286, 300, 315, 329], 91) from by decide +kernel) rfl
theorem m19_1_d (hx : x.toInt < 0 ∨ x.toInt > 18) : M19 1 ls (.int x :: st) H Q = M19 344 ls st H Q := w_x (show decode kb19 1 = .ok (.tableswitch 343 0 18 #[91, 104, 117, 130, 143, 156, 169, 182, 195, 208, 220, 232, 245, 260, 274, 286, 300, 315, 329], 91) from by decide +kernel) (by simp only [xstep, sw, hx, if_true]; rfl)
theorem m19_92 : M19 92 [.val (.ref r), l1] st H Q = M19 93 [.val (.ref r), l1] (.ref r :: st) H Q := w_x (show decode kb19 92 = .ok (.aload_n 0, 1) from by decide +kernel) rfl
theorem m19_93 : M19 93 ls st H Q = M19 95 ls (.int 78 :: st) H Q := w_con (show decode kb19 93 = .ok (.bipush 78, 2) from by decide +kernel) rfl (by decide)
theorem m19_95 : M19 95 ls st H Q = M19 97 ls (.int 79 :: st) H Q := w_con (show decode kb19 95 = .ok (.bipush 79, 2) from by decide +kernel) rfl (by decide)
theorem m19_97 : M19 97 ls st H Q = M19 99 ls (.int 80 :: st) H Q := w_con (show decode kb19 97 = .ok (.bipush 80, 2) from by decide +kernel) rfl (by decide)
theorem m19_99 : M19 99 ls st H Q = M19 100 ls (.int 0 :: st) H Q := w_con (show decode kb19 99 = .ok (.iconst 0, 1) from by decide +kernel) rfl (by decide)
theorem m19_100 : M19 100 ls st H Q = M19 101 ls (.int 0 :: st) H Q := w_con (show decode kb19 100 = .ok (.iconst 0, 1) from by decide +kernel) rfl (by decide)
theorem cr19_301 : vR tables_1 dn y19 301 = some (true, y20, prog_1_method_32_code, 8, (some .long), 5, 0) := pR_of (cR_of (by decide +kernel) rc_20 dn_20 dn_19 (sig := ⟨[.int, .int, .int, .int, .int], some .long⟩) (by decide +kernel) (by decide +kernel) rfl rfl) (by decide +kernel) (by decide +kernel)
theorem m19_101 (a0 : Int32) (a1 : Int32) (a2 : Int32) (a3 : Int32) (a4 : Int32) : M19 101 ls [.int a4, .int a3, .int a2, .int a1, .int a0, .ref b] (put b pre s A L B post) Q = M20 0 [.val (.ref b), .val (.int a0), .val (.int a1), .val (.int a2), .val (.int a3), .val (.int a4), .unset, .unset] [] (put b pre s A L B post) (fun v H1 => M19 104 ls (v.toList ++ []) H1 Q) := w_virt (as := [.int a4, .int a3, .int a2, .int a1, .int a0]) (rest := []) (a := b) (show decode kb19 101 = .ok (.invokevirtual 301, 3) from by decide +kernel) cr19_301 put_o rfl rfl (Nat.le_of_ble_eq_true rfl) (by show 6 ≤ 8; omega) rfl
theorem m19_104 : M19 104 ls [.long J1] H Q = Q (some (.long J1)) H := w_lret (show decode kb19 104 = .ok (.lreturn, 1) from by decide +kernel) rfl
theorem m19_105 : M19 105 [.val (.ref r), l1] st H Q = M19 106 [.val (.ref r), l1] (.ref r :: st) H Q := w_x (show decode kb19 105 = .ok (.aload_n 0, 1) from by decide +kernel) rfl
theorem m19_106 : M19 106 ls st H Q = M19 108 ls (.int 72 :: st) H Q := w_con (show decode kb19 106 = .ok (.bipush 72, 2) from by decide +kernel) rfl (by decide)
theorem m19_108 : M19 108 ls st H Q = M19 110 ls (.int 76 :: st) H Q := w_con (show decode kb19 108 = .ok (.bipush 76, 2) from by decide +kernel) rfl (by decide)
theorem m19_110 : M19 110 ls st H Q = M19 112 ls (.int 84 :: st) H Q := w_con (show decode kb19 110 = .ok (.bipush 84, 2) from by decide +kernel) rfl (by decide)
theorem m19_112 : M19 112 ls st H Q = M19 113 ls (.int 0 :: st) H Q := w_con (show decode kb19 112 = .ok (.iconst 0, 1) from by decide +kernel) rfl (by decide)
theorem m19_113 : M19 113 ls st H Q = M19 114 ls (.int 0 :: st) H Q := w_con (show decode kb19 113 = .ok (.iconst 0, 1) from by decide +kernel) rfl (by decide)
theorem m19_114 (a0 : Int32) (a1 : Int32) (a2 : Int32) (a3 : Int32) (a4 : Int32) : M19 114 ls [.int a4, .int a3, .int a2, .int a1, .int a0, .ref b] (put b pre s A L B post) Q = M20 0 [.val (.ref b), .val (.int a0), .val (.int a1), .val (.int a2), .val (.int a3), .val (.int a4), .unset, .unset] [] (put b pre s A L B post) (fun v H1 => M19 117 ls (v.toList ++ []) H1 Q) := w_virt (as := [.int a4, .int a3, .int a2, .int a1, .int a0]) (rest := []) (a := b) (show decode kb19 114 = .ok (.invokevirtual 301, 3) from by decide +kernel) cr19_301 put_o rfl rfl (Nat.le_of_ble_eq_true rfl) (by show 6 ≤ 8; omega) rfl
theorem m19_117 : M19 117 ls [.long J1] H Q = Q (some (.long J1)) H := w_lret (show decode kb19 117 = .ok (.lreturn, 1) from by decide +kernel) rfl
theorem m19_233 : M19 233 [.val (.ref r), l1] st H Q = M19 234 [.val (.ref r), l1] (.ref r :: st) H Q := w_x (show decode kb19 233 = .ok (.aload_n 0, 1) from by decide +kernel) rfl
theorem m19_234 : M19 234 ls st H Q = M19 236 ls (.int 69 :: st) H Q := w_con (show decode kb19 234 = .ok (.bipush 69, 2) from by decide +kernel) rfl (by decide)
theorem m19_236 : M19 236 ls st H Q = M19 238 ls (.int 81 :: st) H Q := w_con (show decode kb19 236 = .ok (.bipush 81, 2) from by decide +kernel) rfl (by decide)
theorem m19_238 : M19 238 ls st H Q = M19 240 ls (.int 85 :: st) H Q := w_con (show decode kb19 238 = .ok (.bipush 85, 2) from by decide +kernel) rfl (by decide)
theorem m19_240 : M19 240 ls st H Q = M19 241 ls (.int 0 :: st) H Q := w_con (show decode kb19 240 = .ok (.iconst 0, 1) from by decide +kernel) rfl (by decide)
theorem m19_241 : M19 241 ls st H Q = M19 242 ls (.int 0 :: st) H Q := w_con (show decode kb19 241 = .ok (.iconst 0, 1) from by decide +kernel) rfl (by decide)
theorem m19_242 (a0 : Int32) (a1 : Int32) (a2 : Int32) (a3 : Int32) (a4 : Int32) : M19 242 ls [.int a4, .int a3, .int a2, .int a1, .int a0, .ref b] (put b pre s A L B post) Q = M20 0 [.val (.ref b), .val (.int a0), .val (.int a1), .val (.int a2), .val (.int a3), .val (.int a4), .unset, .unset] [] (put b pre s A L B post) (fun v H1 => M19 245 ls (v.toList ++ []) H1 Q) := w_virt (as := [.int a4, .int a3, .int a2, .int a1, .int a0]) (rest := []) (a := b) (show decode kb19 242 = .ok (.invokevirtual 301, 3) from by decide +kernel) cr19_301 put_o rfl rfl (Nat.le_of_ble_eq_true rfl) (by show 6 ≤ 8; omega) rfl
theorem m19_245 : M19 245 ls [.long J1] H Q = Q (some (.long J1)) H := w_lret (show decode kb19 245 = .ok (.lreturn, 1) from by decide +kernel) rfl
theorem m19_246 : M19 246 [.val (.ref r), l1] st H Q = M19 247 [.val (.ref r), l1] (.ref r :: st) H Q := w_x (show decode kb19 246 = .ok (.aload_n 0, 1) from by decide +kernel) rfl
theorem m19_247 : M19 247 ls st H Q = M19 249 ls (.int 77 :: st) H Q := w_con (show decode kb19 247 = .ok (.bipush 77, 2) from by decide +kernel) rfl (by decide)
theorem m19_249 : M19 249 ls st H Q = M19 251 ls (.int 65 :: st) H Q := w_con (show decode kb19 249 = .ok (.bipush 65, 2) from by decide +kernel) rfl (by decide)
theorem m19_251 : M19 251 ls st H Q = M19 253 ls (.int 67 :: st) H Q := w_con (show decode kb19 251 = .ok (.bipush 67, 2) from by decide +kernel) rfl (by decide)
theorem m19_253 : M19 253 ls st H Q = M19 255 ls (.int 82 :: st) H Q := w_con (show decode kb19 253 = .ok (.bipush 82, 2) from by decide +kernel) rfl (by decide)
theorem m19_255 : M19 255 ls st H Q = M19 257 ls (.int 79 :: st) H Q := w_con (show decode kb19 255 = .ok (.bipush 79, 2) from by decide +kernel) rfl (by decide)
theorem m19_257 (a0 : Int32) (a1 : Int32) (a2 : Int32) (a3 : Int32) (a4 : Int32) : M19 257 ls [.int a4, .int a3, .int a2, .int a1, .int a0, .ref b] (put b pre s A L B post) Q = M20 0 [.val (.ref b), .val (.int a0), .val (.int a1), .val (.int a2), .val (.int a3), .val (.int a4), .unset, .unset] [] (put b pre s A L B post) (fun v H1 => M19 260 ls (v.toList ++ []) H1 Q) := w_virt (as := [.int a4, .int a3, .int a2, .int a1, .int a0]) (rest := []) (a := b) (show decode kb19 257 = .ok (.invokevirtual 301, 3) from by decide +kernel) cr19_301 put_o rfl rfl (Nat.le_of_ble_eq_true rfl) (by show 6 ≤ 8; omega) rfl
theorem m19_260 : M19 260 ls [.long J1] H Q = Q (some (.long J1)) H := w_lret (show decode kb19 260 = .ok (.lreturn, 1) from by decide +kernel) rfl
theorem m20_0 : M20 0 [l0, .val (.int v), l2, l3, l4, l5, l6, l7] st H Q = M20 1 [l0, .val (.int v), l2, l3, l4, l5, l6, l7] (.int v :: st) H Q := w_x (show decode kb20 0 = .ok (.iload_n 1, 1) from by decide +kernel) rfl
theorem m20_1 : M20 1 ls (.int x :: st) H Q = M20 2 ls (.long x.toInt64 :: st) H Q := w_x (show decode kb20 1 = .ok (.i2l, 1) from by decide +kernel) rfl
theorem m20_2 : M20 2 ls st H Q = M20 5 ls (.long 128 :: st) H Q := w_ldc2 (show decode kb20 2 = .ok (.ldc2_w 282, 3) from by decide +kernel) (by decide +kernel)
theorem m20_5 : M20 5 ls (.long J2 :: .long J1 :: st) H Q = M20 6 ls (.long (J1 * J2) :: st) H Q := w_x (show decode kb20 5 = .ok (.lmul, 1) from by decide +kernel) rfl
theorem m20_6 : M20 6 [l0, l1, .val (.int v), l3, l4, l5, l6, l7] st H Q = M20 7 [l0, l1, .val (.int v), l3, l4, l5, l6, l7] (.int v :: st) H Q := w_x (show decode kb20 6 = .ok (.iload_n 2, 1) from by decide +kernel) rfl
theorem m20_7 : M20 7 ls (.int x :: st) H Q = M20 8 ls (.long x.toInt64 :: st) H Q := w_x (show decode kb20 7 = .ok (.i2l, 1) from by decide +kernel) rfl
theorem m20_8 : M20 8 ls (.long J2 :: .long J1 :: st) H Q = M20 9 ls (.long (J1 + J2) :: st) H Q := w_x (show decode kb20 8 = .ok (.ladd, 1) from by decide +kernel) rfl
theorem m20_9 : M20 9 [l0, l1, l2, l3, l4, l5, .unset, .unset] (.long J1 :: st) H Q = M20 11 [l0, l1, l2, l3, l4, l5, .val (.long J1), .second] st H Q := w_x (show decode kb20 9 = .ok (.lstore 6, 2) from by decide +kernel) rfl
theorem m20_11 : M20 11 [l0, l1, l2, .val (.int v), l4, l5, l6, l7] st H Q = M20 12 [l0, l1, l2, .val (.int v), l4, l5, l6, l7] (.int v :: st) H Q := w_x (show decode kb20 11 = .ok (.iload_n 3, 1) from by decide +kernel) rfl
theorem m20_12 : M20 12 ls (.int x :: st) H Q = if x = 0 then M20 26 ls st H Q else M20 15 ls st H Q := w_if (show decode kb20 12 = .ok (.ifCond .eq 14, 3) from by decide +kernel) (z_eq x) rfl
theorem m20_15 : M20 15 [l0, l1, l2, l3, l4, l5, .val (.long J1), l7] st H Q = M20 17 [l0, l1, l2, l3, l4, l5, .val (.long J1), l7] (.long J1 :: st) H Q := w_x (show decode kb20 15 = .ok (.lload 6, 2) from by decide +kernel) rfl
theorem m20_17 : M20 17 ls st H Q = M20 20 ls (.long 128 :: st) H Q := w_ldc2 (show decode kb20 17 = .ok (.ldc2_w 282, 3) from by decide +kernel) (by decide +kernel)
theorem m20_20 : M20 20 ls (.long J2 :: .long J1 :: st) H Q = M20 21 ls (.long (J1 * J2) :: st) H Q := w_x (show decode kb20 20 = .ok (.lmul, 1) from by decide +kernel) rfl
theorem m20_21 : M20 21 [l0, l1, l2, .val (.int v), l4, l5, l6, l7] st H Q = M20 22 [l0, l1, l2, .val (.int v), l4, l5, l6, l7] (.int v :: st) H Q := w_x (show decode kb20 21 = .ok (.iload_n 3, 1) from by decide +kernel) rfl
theorem m20_22 : M20 22 ls (.int x :: st) H Q = M20 23 ls (.long x.toInt64 :: st) H Q := w_x (show decode kb20 22 = .ok (.i2l, 1) from by decide +kernel) rfl
theorem m20_23 : M20 23 ls (.long J2 :: .long J1 :: st) H Q = M20 24 ls (.long (J1 + J2) :: st) H Q := w_x (show decode kb20 23 = .ok (.ladd, 1) from by decide +kernel) rfl
theorem m20_24 : M20 24 [l0, l1, l2, l3, l4, l5, .val (.long J2), .second] (.long J1 :: st) H Q = M20 26 [l0, l1, l2, l3, l4, l5, .val (.long J1), .second] st H Q := w_x (show decode kb20 24 = .ok (.lstore 6, 2) from by decide +kernel) rfl
theorem m20_26 : M20 26 [l0, l1, l2, l3, .val (.int v), l5, l6, l7] st H Q = M20 28 [l0, l1, l2, l3, .val (.int v), l5, l6, l7] (.int v :: st) H Q := w_x (show decode kb20 26 = .ok (.iload 4, 2) from by decide +kernel) rfl
theorem m20_28 : M20 28 ls (.int x :: st) H Q = if x = 0 then M20 43 ls st H Q else M20 31 ls st H Q := w_if (show decode kb20 28 = .ok (.ifCond .eq 15, 3) from by decide +kernel) (z_eq x) rfl
theorem m20_31 : M20 31 [l0, l1, l2, l3, l4, l5, .val (.long J1), l7] st H Q = M20 33 [l0, l1, l2, l3, l4, l5, .val (.long J1), l7] (.long J1 :: st) H Q := w_x (show decode kb20 31 = .ok (.lload 6, 2) from by decide +kernel) rfl
theorem m20_33 : M20 33 ls st H Q = M20 36 ls (.long 128 :: st) H Q := w_ldc2 (show decode kb20 33 = .ok (.ldc2_w 282, 3) from by decide +kernel) (by decide +kernel)
theorem m20_36 : M20 36 ls (.long J2 :: .long J1 :: st) H Q = M20 37 ls (.long (J1 * J2) :: st) H Q := w_x (show decode kb20 36 = .ok (.lmul, 1) from by decide +kernel) rfl
theorem m20_37 : M20 37 [l0, l1, l2, l3, .val (.int v), l5, l6, l7] st H Q = M20 39 [l0, l1, l2, l3, .val (.int v), l5, l6, l7] (.int v :: st) H Q := w_x (show decode kb20 37 = .ok (.iload 4, 2) from by decide +kernel) rfl
theorem m20_39 : M20 39 ls (.int x :: st) H Q = M20 40 ls (.long x.toInt64 :: st) H Q := w_x (show decode kb20 39 = .ok (.i2l, 1) from by decide +kernel) rfl
theorem m20_40 : M20 40 ls (.long J2 :: .long J1 :: st) H Q = M20 41 ls (.long (J1 + J2) :: st) H Q := w_x (show decode kb20 40 = .ok (.ladd, 1) from by decide +kernel) rfl
theorem m20_41 : M20 41 [l0, l1, l2, l3, l4, l5, .val (.long J2), .second] (.long J1 :: st) H Q = M20 43 [l0, l1, l2, l3, l4, l5, .val (.long J1), .second] st H Q := w_x (show decode kb20 41 = .ok (.lstore 6, 2) from by decide +kernel) rfl
theorem m20_43 : M20 43 [l0, l1, l2, l3, l4, .val (.int v), l6, l7] st H Q = M20 45 [l0, l1, l2, l3, l4, .val (.int v), l6, l7] (.int v :: st) H Q := w_x (show decode kb20 43 = .ok (.iload 5, 2) from by decide +kernel) rfl
theorem m20_45 : M20 45 ls (.int x :: st) H Q = if x = 0 then M20 60 ls st H Q else M20 48 ls st H Q := w_if (show decode kb20 45 = .ok (.ifCond .eq 15, 3) from by decide +kernel) (z_eq x) rfl
theorem m20_48 : M20 48 [l0, l1, l2, l3, l4, l5, .val (.long J1), l7] st H Q = M20 50 [l0, l1, l2, l3, l4, l5, .val (.long J1), l7] (.long J1 :: st) H Q := w_x (show decode kb20 48 = .ok (.lload 6, 2) from by decide +kernel) rfl
theorem m20_50 : M20 50 ls st H Q = M20 53 ls (.long 128 :: st) H Q := w_ldc2 (show decode kb20 50 = .ok (.ldc2_w 282, 3) from by decide +kernel) (by decide +kernel)
theorem m20_53 : M20 53 ls (.long J2 :: .long J1 :: st) H Q = M20 54 ls (.long (J1 * J2) :: st) H Q := w_x (show decode kb20 53 = .ok (.lmul, 1) from by decide +kernel) rfl
theorem m20_54 : M20 54 [l0, l1, l2, l3, l4, .val (.int v), l6, l7] st H Q = M20 56 [l0, l1, l2, l3, l4, .val (.int v), l6, l7] (.int v :: st) H Q := w_x (show decode kb20 54 = .ok (.iload 5, 2) from by decide +kernel) rfl
theorem m20_56 : M20 56 ls (.int x :: st) H Q = M20 57 ls (.long x.toInt64 :: st) H Q := w_x (show decode kb20 56 = .ok (.i2l, 1) from by decide +kernel) rfl
theorem m20_57 : M20 57 ls (.long J2 :: .long J1 :: st) H Q = M20 58 ls (.long (J1 + J2) :: st) H Q := w_x (show decode kb20 57 = .ok (.ladd, 1) from by decide +kernel) rfl
theorem m20_58 : M20 58 [l0, l1, l2, l3, l4, l5, .val (.long J2), .second] (.long J1 :: st) H Q = M20 60 [l0, l1, l2, l3, l4, l5, .val (.long J1), .second] st H Q := w_x (show decode kb20 58 = .ok (.lstore 6, 2) from by decide +kernel) rfl
theorem m20_60 : M20 60 [l0, l1, l2, l3, l4, l5, .val (.long J1), l7] st H Q = M20 62 [l0, l1, l2, l3, l4, l5, .val (.long J1), l7] (.long J1 :: st) H Q := w_x (show decode kb20 60 = .ok (.lload 6, 2) from by decide +kernel) rfl
theorem m20_62 : M20 62 ls [.long J1] H Q = Q (some (.long J1)) H := w_lret (show decode kb20 62 = .ok (.lreturn, 1) from by decide +kernel) rfl
theorem m21_0 : M21 0 [l0, .val (.long J1), l2, l3] st H Q = M21 1 [l0, .val (.long J1), l2, l3] (.long J1 :: st) H Q := w_x (show decode kb21 0 = .ok (.lload_n 1, 1) from by decide +kernel) rfl
theorem m21_1 : M21 1 ls st H Q = M21 2 ls (.long 0 :: st) H Q := w_con (show decode kb21 1 = .ok (.lconst 0, 1) from by decide +kernel) rfl (by decide)
theorem m21_2 : M21 2 ls (.long J2 :: .long J1 :: st) H Q = M21 3 ls (.int (XT.cmpL J1 J2) :: st) H Q := w_x (show decode kb21 2 = .ok (.lcmp, 1) from by decide +kernel) rfl
theorem m21_3 : M21 3 ls (.int x :: st) H Q = if 0 < x then M21 8 ls st H Q else M21 6 ls st H Q := w_if (show decode kb21 3 = .ok (.ifCond .gt 5, 3) from by decide +kernel) (z_gt x) rfl
theorem m21_8 : M21 8 ls st H Q = M21 9 ls (.int 0 :: st) H Q := w_con (show decode kb21 8 = .ok (.iconst 0, 1) from by decide +kernel) rfl (by decide)
theorem m21_9u : M21 9 [l0, l1, l2, .unset] ((.int v) :: st) H Q = M21 10 [l0, l1, l2, .val (.int v)] st H Q := w_st (i := 3) (p := isI) (show decode kb21 9 = .ok (.istore_n 3, 1) from by decide +kernel) rfl rfl rfl rfl rfl rfl
theorem m21_10 : M21 10 [l0, l1, l2, .val (.int v)] st H Q = M21 11 [l0, l1, l2, .val (.int v)] (.int v :: st) H Q := w_x (show decode kb21 10 = .ok (.iload_n 3, 1) from by decide +kernel) rfl
theorem m21_11 : M21 11 ls st H Q = M21 13 ls (.int 19 :: st) H Q := w_con (show decode kb21 11 = .ok (.bipush 19, 2) from by decide +kernel) rfl (by decide)
theorem m21_13 : M21 13 ls (.int y :: .int x :: st) H Q = if x < y then M21 16 ls st H Q else M21 34 ls st H Q := w_icmpN (show decode kb21 13 = .ok (.if_icmp .ge 21, 3) from by decide +kernel) (i_ge x y) rfl
theorem m21_16 : M21 16 [.val (.ref r), l1, l2, l3] st H Q = M21 17 [.val (.ref r), l1, l2, l3] (.ref r :: st) H Q := w_x (show decode kb21 16 = .ok (.aload_n 0, 1) from by decide +kernel) rfl
theorem m21_17 : M21 17 [l0, l1, l2, .val (.int v)] st H Q = M21 18 [l0, l1, l2, .val (.int v)] (.int v :: st) H Q := w_x (show decode kb21 17 = .ok (.iload_n 3, 1) from by decide +kernel) rfl
theorem cr21_307 : vR tables_1 dn y21 307 = some (true, y19, prog_1_method_33_code, 2, (some .long), 1, 0) := pR_of (cR_of (by decide +kernel) rc_19 dn_19 dn_21 (sig := ⟨[.int], some .long⟩) (by decide +kernel) (by decide +kernel) rfl rfl) (by decide +kernel) (by decide +kernel)
theorem m21_18 (a0 : Int32) : M21 18 ls [.int a0, .ref b] (put b pre s A L B post) Q = M19 0 [.val (.ref b), .val (.int a0)] [] (put b pre s A L B post) (fun v H1 => M21 21 ls (v.toList ++ []) H1 Q) := w_virt (as := [.int a0]) (rest := []) (a := b) (show decode kb21 18 = .ok (.invokevirtual 307, 3) from by decide +kernel) cr21_307 put_o rfl rfl (Nat.le_of_ble_eq_true rfl) (by show 2 ≤ 2; omega) rfl
theorem m21_21 : M21 21 [l0, .val (.long J1), l2, l3] st H Q = M21 22 [l0, .val (.long J1), l2, l3] (.long J1 :: st) H Q := w_x (show decode kb21 21 = .ok (.lload_n 1, 1) from by decide +kernel) rfl
theorem m21_22 : M21 22 ls (.long J2 :: .long J1 :: st) H Q = M21 23 ls (.int (XT.cmpL J1 J2) :: st) H Q := w_x (show decode kb21 22 = .ok (.lcmp, 1) from by decide +kernel) rfl
theorem m21_23 : M21 23 ls (.int x :: st) H Q = if x = 0 then M21 26 ls st H Q else M21 28 ls st H Q := w_ifN (show decode kb21 23 = .ok (.ifCond .ne 5, 3) from by decide +kernel) (z_ne x) rfl
theorem m21_26 : M21 26 [l0, l1, l2, .val (.int v)] st H Q = M21 27 [l0, l1, l2, .val (.int v)] (.int v :: st) H Q := w_x (show decode kb21 26 = .ok (.iload_n 3, 1) from by decide +kernel) rfl
theorem m21_27 : M21 27 ls (.int z :: st) H Q = Q (some (.int z)) H := w_iret (show decode kb21 27 = .ok (.ireturn, 1) from by decide +kernel) rfl
theorem m21_28 : M21 28 [l0, l1, l2, .val (.int v)] st H Q = M21 31 [l0, l1, l2, .val (.int (v + 1))] st H Q := w_iinc (show decode kb21 28 = .ok (.iinc 3 1, 3) from by decide +kernel) rfl (by decide) rfl
theorem m21_31 : M21 31 ls st H Q = M21 10 ls st H Q := w_x (show decode kb21 31 = .ok (.goto (-21), 3) from by decide +kernel) rfl
theorem m22_0 : M22 0 [l0, .val (.int v)] st H Q = M22 1 [l0, .val (.int v)] (.int v :: st) H Q := w_x (show decode kb22 0 = .ok (.iload_n 1, 1) from by decide +kernel) rfl
theorem m22_1 : M22 1 ls st H Q = M22 3 ls (.int 11 :: st) H Q := w_con (show decode kb22 1 = .ok (.bipush 11, 2) from by decide +kernel) rfl (by decide)
theorem m22_3 : M22 3 ls (.int y :: .int x :: st) H Q = if x = y then M22 18 ls st H Q else M22 6 ls st H Q := w_icmp (show decode kb22 3 = .ok (.if_icmp .eq 15, 3) from by decide +kernel) (i_eq x y) rfl
theorem m22_6 : M22 6 [l0, .val (.int v)] st H Q = M22 7 [l0, .val (.int v)] (.int v :: st) H Q := w_x (show decode kb22 6 = .ok (.iload_n 1, 1) from by decide +kernel) rfl
theorem m22_7 : M22 7 ls st H Q = M22 9 ls (.int 12 :: st) H Q := w_con (show decode kb22 7 = .ok (.bipush 12, 2) from by decide +kernel) rfl (by decide)
theorem m22_9 : M22 9 ls (.int y :: .int x :: st) H Q = if x = y then M22 18 ls st H Q else M22 12 ls st H Q := w_icmp (show decode kb22 9 = .ok (.if_icmp .eq 9, 3) from by decide +kernel) (i_eq x y) rfl
theorem m22_12 : M22 12 [l0, .val (.int v)] st H Q = M22 13 [l0, .val (.int v)] (.int v :: st) H Q := w_x (show decode kb22 12 = .ok (.iload_n 1, 1) from by decide +kernel) rfl
theorem m22_13 : M22 13 ls st H Q = M22 15 ls (.int 13 :: st) H Q := w_con (show decode kb22 13 = .ok (.bipush 13, 2) from by decide +kernel) rfl (by decide)
theorem m22_15 : M22 15 ls (.int y :: .int x :: st) H Q = if x = y then M22 18 ls st H Q else M22 23 ls st H Q := w_icmpN (show decode kb22 15 = .ok (.if_icmp .ne 8, 3) from by decide +kernel) (i_ne x y) rfl
theorem m22_23 : M22 23 [.val (.ref r), l1] st H Q = M22 24 [.val (.ref r), l1] (.ref r :: st) H Q := w_x (show decode kb22 23 = .ok (.aload_n 0, 1) from by decide +kernel) rfl
theorem m22_24 : M22 24 [.val (.ref r), l1] st H Q = M22 25 [.val (.ref r), l1] (.ref r :: st) H Q := w_x (show decode kb22 24 = .ok (.aload_n 0, 1) from by decide +kernel) rfl
theorem m22_25 : M22 25 ls (.ref b :: st) (put b pre s A L B post) Q = M22 28 ls (.int (s 48) :: st) (put b pre s A L B post) Q := w_get (show decode kb22 25 = .ok (.getfield 400, 3) from by decide +kernel) gf_400 put_o rfl
theorem cr22_435 : vR tables_1 dn y22 435 = some (true, y23, prog_1_method_75_code, 8, none, 1, 0) := pR_of (cR_of (by decide +kernel) rc_23 dn_23 dn_22 (sig := ⟨[.int], none⟩) (by decide +kernel) (by decide +kernel) rfl rfl) (by decide +kernel) (by decide +kernel)
theorem m22_28 (a0 : Int32) : M22 28 ls [.int a0, .ref b] (put b pre s A L B post) Q = M23 0 [.val (.ref b), .val (.int a0), .unset, .unset, .unset, .unset, .unset, .unset] [] (put b pre s A L B post) (fun v H1 => M22 31 ls (v.toList ++ []) H1 Q) := w_virt (as := [.int a0]) (rest := []) (a := b) (show decode kb22 28 = .ok (.invokevirtual 435, 3) from by decide +kernel) cr22_435 put_o rfl rfl (Nat.le_of_ble_eq_true rfl) (by show 2 ≤ 8; omega) rfl
theorem m22_31 : M22 31 [.val (.ref r), l1] st H Q = M22 32 [.val (.ref r), l1] (.ref r :: st) H Q := w_x (show decode kb22 31 = .ok (.aload_n 0, 1) from by decide +kernel) rfl
theorem m22_32 : M22 32 ls (.ref b :: st) (put b pre s A L B post) Q = M22 35 ls (.int (s 44) :: st) (put b pre s A L B post) Q := w_get (show decode kb22 32 = .ok (.getfield 199, 3) from by decide +kernel) gf_199 put_o rfl
theorem m22_35 : M22 35 ls (.int x :: st) H Q = if x = 0 then M22 39 ls st H Q else M22 38 ls st H Q := w_if (show decode kb22 35 = .ok (.ifCond .eq 4, 3) from by decide +kernel) (z_eq x) rfl
theorem m22_39 : M22 39 [l0, .val (.int v)] st H Q = M22 40 [l0, .val (.int v)] (.int v :: st) H Q := w_x (show decode kb22 39 = .ok (.iload_n 1, 1) from by decide +kernel) rfl
theorem m22_40 : M22 40 ls st H Q = M22 41 ls (.int 3 :: st) H Q := w_con (show decode kb22 40 = .ok (.iconst 3, 1) from by decide +kernel) rfl (by decide)
theorem m22_41 : M22 41 ls (.int y :: .int x :: st) H Q = if y < x then M22 52 ls st H Q else M22 44 ls st H Q := w_icmp (show decode kb22 41 = .ok (.if_icmp .gt 11, 3) from by decide +kernel) (i_gt x y) rfl
theorem m22_44 : M22 44 [.val (.ref r), l1] st H Q = M22 45 [.val (.ref r), l1] (.ref r :: st) H Q := w_x (show decode kb22 44 = .ok (.aload_n 0, 1) from by decide +kernel) rfl
theorem m22_45 : M22 45 [l0, .val (.int v)] st H Q = M22 46 [l0, .val (.int v)] (.int v :: st) H Q := w_x (show decode kb22 45 = .ok (.iload_n 1, 1) from by decide +kernel) rfl
theorem cr22_438 : vR tables_1 dn y22 438 = some (true, y25, prog_1_method_61_code, 2, none, 1, 34) := pR_of (cR_of (by decide +kernel) rc_25 dn_25 dn_22 (sig := ⟨[.int], none⟩) (by decide +kernel) (by decide +kernel) rfl rfl) (by decide +kernel) (by decide +kernel)
theorem m22_46 (a0 : Int32) : M22 46 ls [.int a0, .ref b] (put b pre s A L B post) Q = M25 0 [.val (.ref b), .val (.int a0)] [] (put b pre s A L B post) (fun v H1 => M22 49 ls (v.toList ++ []) H1 Q) := w_virt (as := [.int a0]) (rest := []) (a := b) (show decode kb22 46 = .ok (.invokevirtual 438, 3) from by decide +kernel) cr22_438 put_o rfl rfl (Nat.le_of_ble_eq_true rfl) (by show 2 ≤ 2; omega) rfl
theorem m22_49 : M22 49 ls st H Q = M22 86 ls st H Q := w_x (show decode kb22 49 = .ok (.goto 37, 3) from by decide +kernel) rfl
theorem m22_86 : M22 86 ls [] H Q = Q none H := w_vret (show decode kb22 86 = .ok (.return_, 1) from by decide +kernel) rfl
theorem m23_0 : M23 0 [.val (.ref r), l1, l2, l3, l4, l5, l6, l7] st H Q = M23 1 [.val (.ref r), l1, l2, l3, l4, l5, l6, l7] (.ref r :: st) H Q := w_x (show decode kb23 0 = .ok (.aload_n 0, 1) from by decide +kernel) rfl
theorem m23_1 : M23 1 ls st H Q = M23 2 ls (.int 0 :: st) H Q := w_con (show decode kb23 1 = .ok (.iconst 0, 1) from by decide +kernel) rfl (by decide)
theorem pf23_450 : pfR tables_1 y23.cls y23.name 450 = some ("MacroAssembler", 83, .int) := by decide +kernel
theorem m23_2 : M23 2 ls (.int v :: .ref b :: st) (put b pre s A L B post) Q = M23 5 ls st (put b pre (ou s 49 v) A L B post) Q := w_put (show decode kb23 2 = .ok (.putfield 450, 3) from by decide +kernel) pf23_450 put_o (Nat.zero_le _) (by show 83 < 85; omega) rfl put_s49
theorem m23_5 : M23 5 [l0, .val (.int v), l2, l3, l4, l5, l6, l7] st H Q = M23 6 [l0, .val (.int v), l2, l3, l4, l5, l6, l7] (.int v :: st) H Q := w_x (show decode kb23 5 = .ok (.iload_n 1, 1) from by decide +kernel) rfl
theorem m23_6u : M23 6 [l0, l1, .unset, l3, l4, l5, l6, l7] ((.int v) :: st) H Q = M23 7 [l0, l1, .val (.int v), l3, l4, l5, l6, l7] st H Q := w_st (i := 2) (p := isI) (show decode kb23 6 = .ok (.istore_n 2, 1) from by decide +kernel) rfl rfl rfl rfl rfl rfl
theorem m23_7 : M23 7 ls st H Q = M23 8 ls (.int 0 :: st) H Q := w_con (show decode kb23 7 = .ok (.iconst 0, 1) from by decide +kernel) rfl (by decide)
theorem m23_8u : M23 8 [l0, l1, l2, .unset, l4, l5, l6, l7] ((.int v) :: st) H Q = M23 9 [l0, l1, l2, .val (.int v), l4, l5, l6, l7] st H Q := w_st (i := 3) (p := isI) (show decode kb23 8 = .ok (.istore_n 3, 1) from by decide +kernel) rfl rfl rfl rfl rfl rfl
theorem m23_9 : M23 9 [l0, l1, l2, .val (.int v), l4, l5, l6, l7] st H Q = M23 10 [l0, l1, l2, .val (.int v), l4, l5, l6, l7] (.int v :: st) H Q := w_x (show decode kb23 9 = .ok (.iload_n 3, 1) from by decide +kernel) rfl
theorem m23_10 : M23 10 ls st H Q = M23 13 ls (.int 641 :: st) H Q := w_con (show decode kb23 10 = .ok (.sipush 641, 3) from by decide +kernel) rfl (by decide)
theorem m23_13 : M23 13 ls (.int y :: .int x :: st) H Q = if x < y then M23 16 ls st H Q else M23 191 ls st H Q := w_icmpN (show decode kb23 13 = .ok (.if_icmp .ge 178, 3) from by decide +kernel) (i_ge x y) rfl
theorem m23_16 : M23 16 [l0, l1, .val (.int v), l3, l4, l5, l6, l7] st H Q = M23 17 [l0, l1, .val (.int v), l3, l4, l5, l6, l7] (.int v :: st) H Q := w_x (show decode kb23 16 = .ok (.iload_n 2, 1) from by decide +kernel) rfl
theorem m23_17 : M23 17 [.val (.ref r), l1, l2, l3, l4, l5, l6, l7] st H Q = M23 18 [.val (.ref r), l1, l2, l3, l4, l5, l6, l7] (.ref r :: st) H Q := w_x (show decode kb23 17 = .ok (.aload_n 0, 1) from by decide +kernel) rfl
theorem m23_18 : M23 18 ls (.ref b :: st) (put b pre s A L B post) Q = M23 21 ls (.int (s 46) :: st) (put b pre s A L B post) Q := w_get (show decode kb23 18 = .ok (.getfield 274, 3) from by decide +kernel) gf_274 put_o rfl
theorem m23_21 : M23 21 ls (.int y :: .int x :: st) H Q = if x < y then M23 24 ls st H Q else M23 191 ls st H Q := w_icmpN (show decode kb23 21 = .ok (.if_icmp .ge 170, 3) from by decide +kernel) (i_ge x y) rfl
theorem m23_24 : M23 24 [.val (.ref r), l1, l2, l3, l4, l5, l6, l7] st H Q = M23 25 [.val (.ref r), l1, l2, l3, l4, l5, l6, l7] (.ref r :: st) H Q := w_x (show decode kb23 24 = .ok (.aload_n 0, 1) from by decide +kernel) rfl
theorem m23_25 : M23 25 ls (.ref b :: st) (put b pre s A L B post) Q = M23 28 ls (.int (s 44) :: st) (put b pre s A L B post) Q := w_get (show decode kb23 25 = .ok (.getfield 199, 3) from by decide +kernel) gf_199 put_o rfl
theorem m23_28 : M23 28 ls (.int x :: st) H Q = if x = 0 then M23 31 ls st H Q else M23 191 ls st H Q := w_ifN (show decode kb23 28 = .ok (.ifCond .ne 163, 3) from by decide +kernel) (z_ne x) rfl
theorem m23_31 : M23 31 [.val (.ref r), l1, l2, l3, l4, l5, l6, l7] st H Q = M23 32 [.val (.ref r), l1, l2, l3, l4, l5, l6, l7] (.ref r :: st) H Q := w_x (show decode kb23 31 = .ok (.aload_n 0, 1) from by decide +kernel) rfl
theorem m23_32 : M23 32 ls (.ref b :: st) (put b pre s A L B post) Q = M23 35 ls (.ref (b + 22) :: st) (put b pre s A L B post) Q := w_get (show decode kb23 32 = .ok (.getfield 140, 3) from by decide +kernel) gf_140 put_o rfl
theorem m23_35 : M23 35 [l0, l1, .val (.int v), l3, l4, l5, l6, l7] st H Q = M23 36 [l0, l1, .val (.int v), l3, l4, l5, l6, l7] (.int v :: st) H Q := w_x (show decode kb23 35 = .ok (.iload_n 2, 1) from by decide +kernel) rfl
theorem m23_36  : M23 36 ls (.int j :: .ref (b + 22) :: st) (put b pre s A L B post) Q = (inB j (A 19) ∧ M23 37 ls (.int (getA (A 19) j) :: st) (put b pre s A L B post) Q) := w_ild (show decode kb23 36 = .ok (.caload, 1) from by decide +kernel) rfl put_a19
theorem m23_37u : M23 37 [l0, l1, l2, l3, .unset, l5, l6, l7] ((.int v) :: st) H Q = M23 39 [l0, l1, l2, l3, .val (.int v), l5, l6, l7] st H Q := w_st (i := 4) (p := isI) (show decode kb23 37 = .ok (.istore 4, 2) from by decide +kernel) rfl rfl rfl rfl rfl rfl
theorem m23_37i : M23 37 [l0, l1, l2, l3, .val (.int z), l5, l6, l7] ((.int v) :: st) H Q = M23 39 [l0, l1, l2, l3, .val (.int v), l5, l6, l7] st H Q := w_st (i := 4) (p := isI) (show decode kb23 37 = .ok (.istore 4, 2) from by decide +kernel) rfl rfl rfl rfl rfl rfl
theorem m23_37r : M23 37 [l0, l1, l2, l3, .val (.ref q), l5, l6, l7] ((.int v) :: st) H Q = M23 39 [l0, l1, l2, l3, .val (.int v), l5, l6, l7] st H Q := w_st (i := 4) (p := isI) (show decode kb23 37 = .ok (.istore 4, 2) from by decide +kernel) rfl rfl rfl rfl rfl rfl
theorem m23_39 : M23 39 [l0, l1, l2, l3, .val (.int v), l5, l6, l7] st H Q = M23 41 [l0, l1, l2, l3, .val (.int v), l5, l6, l7] (.int v :: st) H Q := w_x (show decode kb23 39 = .ok (.iload 4, 2) from by decide +kernel) rfl
theorem m23_41 : M23 41 ls st H Q = M23 43 ls (.int 59 :: st) H Q := w_con (show decode kb23 41 = .ok (.bipush 59, 2) from by decide +kernel) rfl (by decide)
theorem m23_43 : M23 43 ls (.int y :: .int x :: st) H Q = if x = y then M23 46 ls st H Q else M23 47 ls st H Q := w_icmpN (show decode kb23 43 = .ok (.if_icmp .ne 4, 3) from by decide +kernel) (i_ne x y) rfl
theorem m23_47 : M23 47 [l0, l1, l2, l3, .val (.int v), l5, l6, l7] st H Q = M23 49 [l0, l1, l2, l3, .val (.int v), l5, l6, l7] (.int v :: st) H Q := w_x (show decode kb23 47 = .ok (.iload 4, 2) from by decide +kernel) rfl
theorem m23_49 : M23 49 ls st H Q = M23 51 ls (.int 32 :: st) H Q := w_con (show decode kb23 49 = .ok (.bipush 32, 2) from by decide +kernel) rfl (by decide)
theorem m23_51 : M23 51 ls (.int y :: .int x :: st) H Q = if x = y then M23 54 ls st H Q else M23 60 ls st H Q := w_icmpN (show decode kb23 51 = .ok (.if_icmp .ne 9, 3) from by decide +kernel) (i_ne x y) rfl
theorem m23_60 : M23 60 [.val (.ref r), l1, l2, l3, l4, l5, l6, l7] st H Q = M23 61 [.val (.ref r), l1, l2, l3, l4, l5, l6, l7] (.ref r :: st) H Q := w_x (show decode kb23 60 = .ok (.aload_n 0, 1) from by decide +kernel) rfl
theorem m23_61 : M23 61 [l0, l1, l2, l3, .val (.int v), l5, l6, l7] st H Q = M23 63 [l0, l1, l2, l3, .val (.int v), l5, l6, l7] (.int v :: st) H Q := w_x (show decode kb23 61 = .ok (.iload 4, 2) from by decide +kernel) rfl
theorem cr23_268 : vR tables_1 dn y23 268 = some (true, y14, prog_1_method_23_code, 2, (some .boolean), 1, 28) := pR_of (cR_of (by decide +kernel) rc_14 dn_14 dn_23 (sig := ⟨[.int], some .boolean⟩) (by decide +kernel) (by decide +kernel) rfl rfl) (by decide +kernel) (by decide +kernel)
theorem m23_63 (a0 : Int32) : M23 63 ls [.int a0, .ref b] (put b pre s A L B post) Q = M14 0 [.val (.ref b), .val (.int a0)] [] (put b pre s A L B post) (fun v H1 => M23 66 ls (v.toList ++ []) H1 Q) := w_virt (as := [.int a0]) (rest := []) (a := b) (show decode kb23 63 = .ok (.invokevirtual 268, 3) from by decide +kernel) cr23_268 put_o rfl rfl (Nat.le_of_ble_eq_true rfl) (by show 2 ≤ 2; omega) rfl
theorem m23_66 : M23 66 ls (.int x :: st) H Q = if x = 0 then M23 113 ls st H Q else M23 69 ls st H Q := w_if (show decode kb23 66 = .ok (.ifCond .eq 47, 3) from by decide +kernel) (z_eq x) rfl
theorem m23_69 : M23 69 [.val (.ref r), l1, l2, l3, l4, l5, l6, l7] st H Q = M23 70 [.val (.ref r), l1, l2, l3, l4, l5, l6, l7] (.ref r :: st) H Q := w_x (show decode kb23 69 = .ok (.aload_n 0, 1) from by decide +kernel) rfl
theorem m23_70 : M23 70 [l0, l1, .val (.int v), l3, l4, l5, l6, l7] st H Q = M23 71 [l0, l1, .val (.int v), l3, l4, l5, l6, l7] (.int v :: st) H Q := w_x (show decode kb23 70 = .ok (.iload_n 2, 1) from by decide +kernel) rfl
theorem cr23_284 : vR tables_1 dn y23 284 = some (true, y15, prog_1_method_26_code, 4, (some .int), 1, 0) := pR_of (cR_of (by decide +kernel) rc_15 dn_15 dn_23 (sig := ⟨[.int], some .int⟩) (by decide +kernel) (by decide +kernel) rfl rfl) (by decide +kernel) (by decide +kernel)
theorem m23_71 (a0 : Int32) : M23 71 ls [.int a0, .ref b] (put b pre s A L B post) Q = M15 0 [.val (.ref b), .val (.int a0), .unset, .unset] [] (put b pre s A L B post) (fun v H1 => M23 74 ls (v.toList ++ []) H1 Q) := w_virt (as := [.int a0]) (rest := []) (a := b) (show decode kb23 71 = .ok (.invokevirtual 284, 3) from by decide +kernel) cr23_284 put_o rfl rfl (Nat.le_of_ble_eq_true rfl) (by show 2 ≤ 4; omega) rfl
theorem m23_74u : M23 74 [l0, l1, l2, l3, l4, .unset, l6, l7] ((.int v) :: st) H Q = M23 76 [l0, l1, l2, l3, l4, .val (.int v), l6, l7] st H Q := w_st (i := 5) (p := isI) (show decode kb23 74 = .ok (.istore 5, 2) from by decide +kernel) rfl rfl rfl rfl rfl rfl
theorem m23_74i : M23 74 [l0, l1, l2, l3, l4, .val (.int z), l6, l7] ((.int v) :: st) H Q = M23 76 [l0, l1, l2, l3, l4, .val (.int v), l6, l7] st H Q := w_st (i := 5) (p := isI) (show decode kb23 74 = .ok (.istore 5, 2) from by decide +kernel) rfl rfl rfl rfl rfl rfl
theorem m23_74r : M23 74 [l0, l1, l2, l3, l4, .val (.ref q), l6, l7] ((.int v) :: st) H Q = M23 76 [l0, l1, l2, l3, l4, .val (.int v), l6, l7] st H Q := w_st (i := 5) (p := isI) (show decode kb23 74 = .ok (.istore 5, 2) from by decide +kernel) rfl rfl rfl rfl rfl rfl
theorem m23_76 : M23 76 [l0, l1, l2, l3, l4, .val (.int v), l6, l7] st H Q = M23 78 [l0, l1, l2, l3, l4, .val (.int v), l6, l7] (.int v :: st) H Q := w_x (show decode kb23 76 = .ok (.iload 5, 2) from by decide +kernel) rfl
theorem m23_78 : M23 78 [l0, l1, .val (.int v), l3, l4, l5, l6, l7] st H Q = M23 79 [l0, l1, .val (.int v), l3, l4, l5, l6, l7] (.int v :: st) H Q := w_x (show decode kb23 78 = .ok (.iload_n 2, 1) from by decide +kernel) rfl
theorem m23_79 : M23 79 ls (.int y :: .int x :: st) H Q = M23 80 ls (.int (x - y) :: st) H Q := w_x (show decode kb23 79 = .ok (.isub, 1) from by decide +kernel) rfl
theorem m23_80 : M23 80 ls st H Q = M23 82 ls (.int 8 :: st) H Q := w_con (show decode kb23 80 = .ok (.bipush 8, 2) from by decide +kernel) rfl (by decide)
theorem m23_82 : M23 82 ls (.int y :: .int x :: st) H Q = if y < x then M23 85 ls st H Q else M23 90 ls st H Q := w_icmpN (show decode kb23 82 = .ok (.if_icmp .le 8, 3) from by decide +kernel) (i_le x y) rfl
theorem m23_90 : M23 90 [.val (.ref r), l1, l2, l3, l4, l5, l6, l7] st H Q = M23 91 [.val (.ref r), l1, l2, l3, l4, l5, l6, l7] (.ref r :: st) H Q := w_x (show decode kb23 90 = .ok (.aload_n 0, 1) from by decide +kernel) rfl
theorem m23_91 : M23 91 [l0, l1, .val (.int v), l3, l4, l5, l6, l7] st H Q = M23 92 [l0, l1, .val (.int v), l3, l4, l5, l6, l7] (.int v :: st) H Q := w_x (show decode kb23 91 = .ok (.iload_n 2, 1) from by decide +kernel) rfl
theorem m23_92 : M23 92 [l0, l1, l2, l3, l4, .val (.int v), l6, l7] st H Q = M23 94 [l0, l1, l2, l3, l4, .val (.int v), l6, l7] (.int v :: st) H Q := w_x (show decode kb23 92 = .ok (.iload 5, 2) from by decide +kernel) rfl
theorem cr23_288 : vR tables_1 dn y23 288 = some (true, y17, prog_1_method_27_code, 6, (some .long), 2, 24) := pR_of (cR_of (by decide +kernel) rc_17 dn_17 dn_23 (sig := ⟨[.int, .int], some .long⟩) (by decide +kernel) (by decide +kernel) rfl rfl) (by decide +kernel) (by decide +kernel)
theorem m23_94 (a0 : Int32) (a1 : Int32) : M23 94 ls [.int a1, .int a0, .ref b] (put b pre s A L B post) Q = M17 0 [.val (.ref b), .val (.int a0), .val (.int a1), .unset, .unset, .unset] [] (put b pre s A L B post) (fun v H1 => M23 97 ls (v.toList ++ []) H1 Q) := w_virt (as := [.int a1, .int a0]) (rest := []) (a := b) (show decode kb23 94 = .ok (.invokevirtual 288, 3) from by decide +kernel) cr23_288 put_o rfl rfl (Nat.le_of_ble_eq_true rfl) (by show 3 ≤ 6; omega) rfl
theorem m23_97 : M23 97 [l0, l1, l2, l3, l4, l5, .unset, .unset] (.long J1 :: st) H Q = M23 99 [l0, l1, l2, l3, l4, l5, .val (.long J1), .second] st H Q := w_x (show decode kb23 97 = .ok (.lstore 6, 2) from by decide +kernel) rfl
theorem m23_99 : M23 99 [.val (.ref r), l1, l2, l3, l4, l5, l6, l7] st H Q = M23 100 [.val (.ref r), l1, l2, l3, l4, l5, l6, l7] (.ref r :: st) H Q := w_x (show decode kb23 99 = .ok (.aload_n 0, 1) from by decide +kernel) rfl
theorem m23_100 : M23 100 ls st H Q = M23 101 ls (.int 1 :: st) H Q := w_con (show decode kb23 100 = .ok (.iconst 1, 1) from by decide +kernel) rfl (by decide)
theorem m23_101 : M23 101 ls st H Q = M23 102 ls (.int 0 :: st) H Q := w_con (show decode kb23 101 = .ok (.iconst 0, 1) from by decide +kernel) rfl (by decide)
theorem m23_102 : M23 102 [l0, l1, l2, l3, l4, l5, .val (.long J1), l7] st H Q = M23 104 [l0, l1, l2, l3, l4, l5, .val (.long J1), l7] (.long J1 :: st) H Q := w_x (show decode kb23 102 = .ok (.lload 6, 2) from by decide +kernel) rfl
theorem cr23_503 : vR tables_1 dn y23 503 = some (true, y24, prog_1_method_77_code, 5, none, 3, 25) := pR_of (cR_of (by decide +kernel) rc_24 dn_24 dn_23 (sig := ⟨[.int, .int, .long], none⟩) (by decide +kernel) (by decide +kernel) rfl rfl) (by decide +kernel) (by decide +kernel)
theorem m23_104 (a0 : Int32) (a1 : Int32) (a2 : Int64) : M23 104 ls [.long a2, .int a1, .int a0, .ref b] (put b pre s A L B post) Q = M24 0 [.val (.ref b), .val (.int a0), .val (.int a1), .val (.long a2), .second] [] (put b pre s A L B post) (fun v H1 => M23 107 ls (v.toList ++ []) H1 Q) := w_virt (as := [.long a2, .int a1, .int a0]) (rest := []) (a := b) (show decode kb23 104 = .ok (.invokevirtual 503, 3) from by decide +kernel) cr23_503 put_o rfl rfl (Nat.le_of_ble_eq_true rfl) (by show 5 ≤ 5; omega) rfl
theorem m23_107 : M23 107 [l0, l1, l2, l3, l4, .val (.int v), l6, l7] st H Q = M23 109 [l0, l1, l2, l3, l4, .val (.int v), l6, l7] (.int v :: st) H Q := w_x (show decode kb23 107 = .ok (.iload 5, 2) from by decide +kernel) rfl
theorem m23_109i : M23 109 [l0, l1, .val (.int z), l3, l4, l5, l6, l7] ((.int v) :: st) H Q = M23 110 [l0, l1, .val (.int v), l3, l4, l5, l6, l7] st H Q := w_st (i := 2) (p := isI) (show decode kb23 109 = .ok (.istore_n 2, 1) from by decide +kernel) rfl rfl rfl rfl rfl rfl
theorem m23_110 : M23 110 ls st H Q = M23 185 ls st H Q := w_x (show decode kb23 110 = .ok (.goto 75, 3) from by decide +kernel) rfl
theorem m23_185 : M23 185 [l0, l1, l2, .val (.int v), l4, l5, l6, l7] st H Q = M23 188 [l0, l1, l2, .val (.int (v + 1)), l4, l5, l6, l7] st H Q := w_iinc (show decode kb23 185 = .ok (.iinc 3 1, 3) from by decide +kernel) rfl (by decide) rfl
theorem m23_188 : M23 188 ls st H Q = M23 9 ls st H Q := w_x (show decode kb23 188 = .ok (.goto (-179), 3) from by decide +kernel) rfl
theorem m23_191 : M23 191 ls [] H Q = Q none H := w_vret (show decode kb23 191 = .ok (.return_, 1) from by decide +kernel) rfl
theorem m24_0 : M24 0 [.val (.ref r), l1, l2, l3, l4] st H Q = M24 1 [.val (.ref r), l1, l2, l3, l4] (.ref r :: st) H Q := w_x (show decode kb24 0 = .ok (.aload_n 0, 1) from by decide +kernel) rfl
theorem m24_1 : M24 1 ls (.ref b :: st) (put b pre s A L B post) Q = M24 4 ls (.int (s 49) :: st) (put b pre s A L B post) Q := w_get (show decode kb24 1 = .ok (.getfield 450, 3) from by decide +kernel) gf_450 put_o rfl
theorem m24_4 : M24 4 ls st H Q = M24 7 ls (.int 640 :: st) H Q := w_con (show decode kb24 4 = .ok (.sipush 640, 3) from by decide +kernel) rfl (by decide)
theorem m24_7 : M24 7 ls (.int y :: .int x :: st) H Q = if x < y then M24 15 ls st H Q else M24 10 ls st H Q := w_icmp (show decode kb24 7 = .ok (.if_icmp .lt 8, 3) from by decide +kernel) (i_lt x y) rfl
theorem m24_15 : M24 15 [.val (.ref r), l1, l2, l3, l4] st H Q = M24 16 [.val (.ref r), l1, l2, l3, l4] (.ref r :: st) H Q := w_x (show decode kb24 15 = .ok (.aload_n 0, 1) from by decide +kernel) rfl
theorem m24_16 : M24 16 ls (.ref b :: st) (put b pre s A L B post) Q = M24 19 ls (.ref (b + 23) :: st) (put b pre s A L B post) Q := w_get (show decode kb24 16 = .ok (.getfield 143, 3) from by decide +kernel) gf_143 put_o rfl
theorem m24_19 : M24 19 [.val (.ref r), l1, l2, l3, l4] st H Q = M24 20 [.val (.ref r), l1, l2, l3, l4] (.ref r :: st) H Q := w_x (show decode kb24 19 = .ok (.aload_n 0, 1) from by decide +kernel) rfl
theorem m24_20 : M24 20 ls (.ref b :: st) (put b pre s A L B post) Q = M24 23 ls (.int (s 49) :: st) (put b pre s A L B post) Q := w_get (show decode kb24 20 = .ok (.getfield 450, 3) from by decide +kernel) gf_450 put_o rfl
theorem m24_23 : M24 23 [l0, .val (.int v), l2, l3, l4] st H Q = M24 24 [l0, .val (.int v), l2, l3, l4] (.int v :: st) H Q := w_x (show decode kb24 23 = .ok (.iload_n 1, 1) from by decide +kernel) rfl
theorem m24_24  : M24 24 ls (.int v :: .int j :: .ref (b + 23) :: st) (put b pre s A L B post) Q = (inB j (A 20) ∧ M24 25 ls st (put b pre s (ou A 20 (setA (A 20) j v)) L B post) Q) := w_ist (show decode kb24 24 = .ok (.iastore, 1) from by decide +kernel) rfl put_a20 (Nat.zero_le _) rfl put_w20
theorem m24_25 : M24 25 [.val (.ref r), l1, l2, l3, l4] st H Q = M24 26 [.val (.ref r), l1, l2, l3, l4] (.ref r :: st) H Q := w_x (show decode kb24 25 = .ok (.aload_n 0, 1) from by decide +kernel) rfl
theorem m24_26 : M24 26 ls (.ref b :: st) (put b pre s A L B post) Q = M24 29 ls (.ref (b + 24) :: st) (put b pre s A L B post) Q := w_get (show decode kb24 26 = .ok (.getfield 146, 3) from by decide +kernel) gf_146 put_o rfl
theorem m24_29 : M24 29 [.val (.ref r), l1, l2, l3, l4] st H Q = M24 30 [.val (.ref r), l1, l2, l3, l4] (.ref r :: st) H Q := w_x (show decode kb24 29 = .ok (.aload_n 0, 1) from by decide +kernel) rfl
theorem m24_30 : M24 30 ls (.ref b :: st) (put b pre s A L B post) Q = M24 33 ls (.int (s 49) :: st) (put b pre s A L B post) Q := w_get (show decode kb24 30 = .ok (.getfield 450, 3) from by decide +kernel) gf_450 put_o rfl
theorem m24_33 : M24 33 [l0, l1, .val (.int v), l3, l4] st H Q = M24 34 [l0, l1, .val (.int v), l3, l4] (.int v :: st) H Q := w_x (show decode kb24 33 = .ok (.iload_n 2, 1) from by decide +kernel) rfl
theorem m24_34  : M24 34 ls (.int v :: .int j :: .ref (b + 24) :: st) (put b pre s A L B post) Q = (inB j (A 21) ∧ M24 35 ls st (put b pre s (ou A 21 (setA (A 21) j v)) L B post) Q) := w_ist (show decode kb24 34 = .ok (.iastore, 1) from by decide +kernel) rfl put_a21 (Nat.zero_le _) rfl put_w21
theorem m24_35 : M24 35 [.val (.ref r), l1, l2, l3, l4] st H Q = M24 36 [.val (.ref r), l1, l2, l3, l4] (.ref r :: st) H Q := w_x (show decode kb24 35 = .ok (.aload_n 0, 1) from by decide +kernel) rfl
theorem m24_36 : M24 36 ls (.ref b :: st) (put b pre s A L B post) Q = M24 39 ls (.ref (b + 25) :: st) (put b pre s A L B post) Q := w_get (show decode kb24 36 = .ok (.getfield 149, 3) from by decide +kernel) gf_149 put_o rfl
theorem m24_39 : M24 39 [.val (.ref r), l1, l2, l3, l4] st H Q = M24 40 [.val (.ref r), l1, l2, l3, l4] (.ref r :: st) H Q := w_x (show decode kb24 39 = .ok (.aload_n 0, 1) from by decide +kernel) rfl
theorem m24_40 : M24 40 ls (.ref b :: st) (put b pre s A L B post) Q = M24 43 ls (.int (s 49) :: st) (put b pre s A L B post) Q := w_get (show decode kb24 40 = .ok (.getfield 450, 3) from by decide +kernel) gf_450 put_o rfl
theorem m24_43 : M24 43 [l0, l1, l2, .val (.long J1), l4] st H Q = M24 44 [l0, l1, l2, .val (.long J1), l4] (.long J1 :: st) H Q := w_x (show decode kb24 43 = .ok (.lload_n 3, 1) from by decide +kernel) rfl
theorem m24_44  : M24 44 ls (.long J1 :: .int j :: .ref (b + 25) :: st) (put b pre s A L B post) Q = (inB j (B 2) ∧ M24 45 ls st (put b pre s A L (ou B 2 (setA (B 2) j J1)) post) Q) := w_lst (show decode kb24 44 = .ok (.lastore, 1) from by decide +kernel) put_l2 (Nat.zero_le _) put_lw2
theorem m24_45 : M24 45 [.val (.ref r), l1, l2, l3, l4] st H Q = M24 46 [.val (.ref r), l1, l2, l3, l4] (.ref r :: st) H Q := w_x (show decode kb24 45 = .ok (.aload_n 0, 1) from by decide +kernel) rfl
theorem m24_46 : M24 46 ls ((.ref r) :: st) H Q = M24 47 ls ((.ref r) :: (.ref r) :: st) H Q := w_x (show decode kb24 46 = .ok (.dup, 1) from by decide +kernel) rfl
theorem m24_47 : M24 47 ls (.ref b :: st) (put b pre s A L B post) Q = M24 50 ls (.int (s 49) :: st) (put b pre s A L B post) Q := w_get (show decode kb24 47 = .ok (.getfield 450, 3) from by decide +kernel) gf_450 put_o rfl
theorem m24_50 : M24 50 ls st H Q = M24 51 ls (.int 1 :: st) H Q := w_con (show decode kb24 50 = .ok (.iconst 1, 1) from by decide +kernel) rfl (by decide)
theorem m24_51 : M24 51 ls (.int y :: .int x :: st) H Q = M24 52 ls (.int (x + y) :: st) H Q := w_x (show decode kb24 51 = .ok (.iadd, 1) from by decide +kernel) rfl
theorem pf24_450 : pfR tables_1 y24.cls y24.name 450 = some ("MacroAssembler", 83, .int) := by decide +kernel
theorem m24_52 : M24 52 ls (.int v :: .ref b :: st) (put b pre s A L B post) Q = M24 55 ls st (put b pre (ou s 49 v) A L B post) Q := w_put (show decode kb24 52 = .ok (.putfield 450, 3) from by decide +kernel) pf24_450 put_o (Nat.zero_le _) (by show 83 < 85; omega) rfl put_s49
theorem m24_55 : M24 55 ls [] H Q = Q none H := w_vret (show decode kb24 55 = .ok (.return_, 1) from by decide +kernel) rfl
theorem m25_0 : M25 0 [.val (.ref r), l1] st H Q = M25 1 [.val (.ref r), l1] (.ref r :: st) H Q := w_x (show decode kb25 0 = .ok (.aload_n 0, 1) from by decide +kernel) rfl
theorem m25_1 : M25 1 ls (.ref b :: st) (put b pre s A L B post) Q = M25 4 ls (.int (s 49) :: st) (put b pre s A L B post) Q := w_get (show decode kb25 1 = .ok (.getfield 450, 3) from by decide +kernel) gf_450 put_o rfl
theorem m25_4 : M25 4 ls st H Q = M25 5 ls (.int 1 :: st) H Q := w_con (show decode kb25 4 = .ok (.iconst 1, 1) from by decide +kernel) rfl (by decide)
theorem m25_5 : M25 5 ls (.int y :: .int x :: st) H Q = if x = y then M25 13 ls st H Q else M25 8 ls st H Q := w_icmp (show decode kb25 5 = .ok (.if_icmp .eq 8, 3) from by decide +kernel) (i_eq x y) rfl
theorem m25_13 : M25 13 [.val (.ref r), l1] st H Q = M25 14 [.val (.ref r), l1] (.ref r :: st) H Q := w_x (show decode kb25 13 = .ok (.aload_n 0, 1) from by decide +kernel) rfl
theorem cr25_403 : vR tables_1 dn y25 403 = some (true, y26, prog_1_method_55_code, 1, none, 0, 1) := pR_of (cR_of (by decide +kernel) rc_26 dn_26 dn_25 (sig := ⟨[], none⟩) (by decide +kernel) (by decide +kernel) rfl rfl) (by decide +kernel) (by decide +kernel)
theorem m25_14 : M25 14 ls [.ref b] (put b pre s A L B post) Q = M26 0 [.val (.ref b)] [] (put b pre s A L B post) (fun v H1 => M25 17 ls (v.toList ++ []) H1 Q) := w_virt (as := []) (rest := []) (a := b) (show decode kb25 14 = .ok (.invokevirtual 403, 3) from by decide +kernel) cr25_403 put_o rfl rfl (Nat.le_of_ble_eq_true rfl) (by show 1 ≤ 1; omega) rfl
theorem m25_17 : M25 17 [.val (.ref r), l1] st H Q = M25 18 [.val (.ref r), l1] (.ref r :: st) H Q := w_x (show decode kb25 17 = .ok (.aload_n 0, 1) from by decide +kernel) rfl
theorem m25_18 : M25 18 ls (.ref b :: st) (put b pre s A L B post) Q = M25 21 ls (.int (s 44) :: st) (put b pre s A L B post) Q := w_get (show decode kb25 18 = .ok (.getfield 199, 3) from by decide +kernel) gf_199 put_o rfl
theorem m25_21 : M25 21 ls (.int x :: st) H Q = if x = 0 then M25 25 ls st H Q else M25 24 ls st H Q := w_if (show decode kb25 21 = .ok (.ifCond .eq 4, 3) from by decide +kernel) (z_eq x) rfl
theorem m25_25 : M25 25 [.val (.ref r), l1] st H Q = M25 26 [.val (.ref r), l1] (.ref r :: st) H Q := w_x (show decode kb25 25 = .ok (.aload_n 0, 1) from by decide +kernel) rfl
theorem m25_26 : M25 26 [l0, .val (.int v)] st H Q = M25 27 [l0, .val (.int v)] (.int v :: st) H Q := w_x (show decode kb25 26 = .ok (.iload_n 1, 1) from by decide +kernel) rfl
theorem cr25_456 : vR tables_1 dn y25 456 = some (true, y27, prog_1_method_57_code, 2, none, 1, 0) := pR_of (cR_of (by decide +kernel) rc_27 dn_27 dn_25 (sig := ⟨[.int], none⟩) (by decide +kernel) (by decide +kernel) rfl rfl) (by decide +kernel) (by decide +kernel)
theorem m25_27 (a0 : Int32) : M25 27 ls [.int a0, .ref b] (put b pre s A L B post) Q = M27 0 [.val (.ref b), .val (.int a0)] [] (put b pre s A L B post) (fun v H1 => M25 30 ls (v.toList ++ []) H1 Q) := w_virt (as := [.int a0]) (rest := []) (a := b) (show decode kb25 27 = .ok (.invokevirtual 456, 3) from by decide +kernel) cr25_456 put_o rfl rfl (Nat.le_of_ble_eq_true rfl) (by show 2 ≤ 2; omega) rfl
theorem m25_30 : M25 30 ls [] H Q = Q none H := w_vret (show decode kb25 30 = .ok (.return_, 1) from by decide +kernel) rfl
theorem m26_0 : M26 0 [.val (.ref r)] st H Q = M26 1 [.val (.ref r)] (.ref r :: st) H Q := w_x (show decode kb26 0 = .ok (.aload_n 0, 1) from by decide +kernel) rfl
theorem m26_1 : M26 1 ls (.ref b :: st) (put b pre s A L B post) Q = M26 4 ls (.int (s 47) :: st) (put b pre s A L B post) Q := w_get (show decode kb26 1 = .ok (.getfield 421, 3) from by decide +kernel) gf_421 put_o rfl
theorem m26_4 : M26 4 ls (.int x :: st) H Q = if x = 0 then M26 19 ls st H Q else M26 7 ls st H Q := w_if (show decode kb26 4 = .ok (.ifCond .eq 15, 3) from by decide +kernel) (z_eq x) rfl
theorem m26_19 : M26 19 ls [] H Q = Q none H := w_vret (show decode kb26 19 = .ok (.return_, 1) from by decide +kernel) rfl
theorem m27_0 : M27 0 [.val (.ref r), l1] st H Q = M27 1 [.val (.ref r), l1] (.ref r :: st) H Q := w_x (show decode kb27 0 = .ok (.aload_n 0, 1) from by decide +kernel) rfl
theorem m27_1 : M27 1 ls (.ref b :: st) (put b pre s A L B post) Q = M27 4 ls (.int (s 41) :: st) (put b pre s A L B post) Q := w_get (show decode kb27 1 = .ok (.getfield 239, 3) from by decide +kernel) gf_239 put_o rfl
theorem m27_4 : M27 4 [.val (.ref r), l1] st H Q = M27 5 [.val (.ref r), l1] (.ref r :: st) H Q := w_x (show decode kb27 4 = .ok (.aload_n 0, 1) from by decide +kernel) rfl
theorem m27_5 : M27 5 ls (.ref b :: st) (put b pre s A L B post) Q = M27 8 ls (.int (s 21) :: st) (put b pre s A L B post) Q := w_get (show decode kb27 5 = .ok (.getfield 179, 3) from by decide +kernel) gf_179 put_o rfl
theorem m27_8 : M27 8 ls (.int y :: .int x :: st) H Q = if x < y then M27 11 ls st H Q else M27 20 ls st H Q := w_icmpN (show decode kb27 8 = .ok (.if_icmp .ge 12, 3) from by decide +kernel) (i_ge x y) rfl
theorem m27_11 : M27 11 [.val (.ref r), l1] st H Q = M27 12 [.val (.ref r), l1] (.ref r :: st) H Q := w_x (show decode kb27 11 = .ok (.aload_n 0, 1) from by decide +kernel) rfl
theorem m27_12 : M27 12 ls (.ref b :: st) (put b pre s A L B post) Q = M27 15 ls (.int (s 41) :: st) (put b pre s A L B post) Q := w_get (show decode kb27 12 = .ok (.getfield 239, 3) from by decide +kernel) gf_239 put_o rfl
theorem m27_15 : M27 15 ls st H Q = M27 17 ls (.int 32 :: st) H Q := w_con (show decode kb27 15 = .ok (.bipush 32, 2) from by decide +kernel) rfl (by decide)
theorem m27_17 : M27 17 ls (.int y :: .int x :: st) H Q = if x < y then M27 25 ls st H Q else M27 20 ls st H Q := w_icmp (show decode kb27 17 = .ok (.if_icmp .lt 8, 3) from by decide +kernel) (i_lt x y) rfl
theorem m27_25 : M27 25 [.val (.ref r), l1] st H Q = M27 26 [.val (.ref r), l1] (.ref r :: st) H Q := w_x (show decode kb27 25 = .ok (.aload_n 0, 1) from by decide +kernel) rfl
theorem m27_26 : M27 26 ls (.ref b :: st) (put b pre s A L B post) Q = M27 29 ls (.ref (b + 4) :: st) (put b pre s A L B post) Q := w_get (show decode kb27 26 = .ok (.getfield 84, 3) from by decide +kernel) gf_84 put_o rfl
theorem m27_29 : M27 29 [.val (.ref r), l1] st H Q = M27 30 [.val (.ref r), l1] (.ref r :: st) H Q := w_x (show decode kb27 29 = .ok (.aload_n 0, 1) from by decide +kernel) rfl
theorem m27_30 : M27 30 ls (.ref b :: st) (put b pre s A L B post) Q = M27 33 ls (.int (s 41) :: st) (put b pre s A L B post) Q := w_get (show decode kb27 30 = .ok (.getfield 239, 3) from by decide +kernel) gf_239 put_o rfl
theorem m27_33 : M27 33 [l0, .val (.int v)] st H Q = M27 34 [l0, .val (.int v)] (.int v :: st) H Q := w_x (show decode kb27 33 = .ok (.iload_n 1, 1) from by decide +kernel) rfl
theorem m27_34 : M27 34 ls st H Q = M27 37 ls (.int 255 :: st) H Q := w_con (show decode kb27 34 = .ok (.sipush 255, 3) from by decide +kernel) rfl (by decide)
theorem m27_37 : M27 37 ls (.int y :: .int x :: st) H Q = M27 38 ls (.int (x &&& y) :: st) H Q := w_x (show decode kb27 37 = .ok (.iand, 1) from by decide +kernel) rfl
theorem m27_38  : M27 38 ls (.int v :: .int j :: .ref (b + 4) :: st) (put b pre s A L B post) Q = (inB j (A 3) ∧ M27 39 ls st (put b pre s (ou A 3 (setA (A 3) j v)) L B post) Q) := w_ist (show decode kb27 38 = .ok (.iastore, 1) from by decide +kernel) rfl put_a3 (Nat.zero_le _) rfl put_w3
theorem m27_39 : M27 39 [.val (.ref r), l1] st H Q = M27 40 [.val (.ref r), l1] (.ref r :: st) H Q := w_x (show decode kb27 39 = .ok (.aload_n 0, 1) from by decide +kernel) rfl
theorem m27_40 : M27 40 ls ((.ref r) :: st) H Q = M27 41 ls ((.ref r) :: (.ref r) :: st) H Q := w_x (show decode kb27 40 = .ok (.dup, 1) from by decide +kernel) rfl
theorem m27_41 : M27 41 ls (.ref b :: st) (put b pre s A L B post) Q = M27 44 ls (.int (s 41) :: st) (put b pre s A L B post) Q := w_get (show decode kb27 41 = .ok (.getfield 239, 3) from by decide +kernel) gf_239 put_o rfl
theorem m27_44 : M27 44 ls st H Q = M27 45 ls (.int 1 :: st) H Q := w_con (show decode kb27 44 = .ok (.iconst 1, 1) from by decide +kernel) rfl (by decide)
theorem m27_45 : M27 45 ls (.int y :: .int x :: st) H Q = M27 46 ls (.int (x + y) :: st) H Q := w_x (show decode kb27 45 = .ok (.iadd, 1) from by decide +kernel) rfl
theorem pf27_239 : pfR tables_1 y27.cls y27.name 239 = some ("MacroAssembler", 65, .int) := by decide +kernel
theorem m27_46 : M27 46 ls (.int v :: .ref b :: st) (put b pre s A L B post) Q = M27 49 ls st (put b pre (ou s 41 v) A L B post) Q := w_put (show decode kb27 46 = .ok (.putfield 239, 3) from by decide +kernel) pf27_239 put_o (Nat.zero_le _) (by show 65 < 85; omega) rfl put_s41
theorem m27_49 : M27 49 ls [] H Q = Q none H := w_vret (show decode kb27 49 = .ok (.return_, 1) from by decide +kernel) rfl
theorem m28_0 : M28 0 [.val (.ref r)] st H Q = M28 1 [.val (.ref r)] (.ref r :: st) H Q := w_x (show decode kb28 0 = .ok (.aload_n 0, 1) from by decide +kernel) rfl
theorem m28_1 : M28 1 ls (.ref b :: st) (put b pre s A L B post) Q = M28 4 ls (.int (s 34) :: st) (put b pre s A L B post) Q := w_get (show decode kb28 1 = .ok (.getfield 344, 3) from by decide +kernel) gf_344 put_o rfl
theorem m28_4 : M28 4 ls (.int x :: st) H Q = if x < 0 then M28 7 ls st H Q else M28 44 ls st H Q := w_ifN (show decode kb28 4 = .ok (.ifCond .ge 40, 3) from by decide +kernel) (z_ge x) rfl
theorem m28_7 : M28 7 [.val (.ref r)] st H Q = M28 8 [.val (.ref r)] (.ref r :: st) H Q := w_x (show decode kb28 7 = .ok (.aload_n 0, 1) from by decide +kernel) rfl
theorem m28_8 : M28 8 [.val (.ref r)] st H Q = M28 9 [.val (.ref r)] (.ref r :: st) H Q := w_x (show decode kb28 8 = .ok (.aload_n 0, 1) from by decide +kernel) rfl
theorem m28_9 : M28 9 ls (.ref b :: st) (put b pre s A L B post) Q = M28 12 ls (.int (s 23) :: st) (put b pre s A L B post) Q := w_get (show decode kb28 9 = .ok (.getfield 209, 3) from by decide +kernel) gf_209 put_o rfl
theorem m28_12 : M28 12 ls st H Q = M28 13 ls (.int 1 :: st) H Q := w_con (show decode kb28 12 = .ok (.iconst 1, 1) from by decide +kernel) rfl (by decide)
theorem m28_13 : M28 13 ls (.int y :: .int x :: st) H Q = M28 14 ls (.int (x + y) :: st) H Q := w_x (show decode kb28 13 = .ok (.iadd, 1) from by decide +kernel) rfl
theorem pf28_212 : pfR tables_1 y28.cls y28.name 212 = some ("MacroAssembler", 75, .int) := by decide +kernel
theorem m28_14 : M28 14 ls (.int v :: .ref b :: st) (put b pre s A L B post) Q = M28 17 ls st (put b pre (ou s 43 v) A L B post) Q := w_put (show decode kb28 14 = .ok (.putfield 212, 3) from by decide +kernel) pf28_212 put_o (Nat.zero_le _) (by show 75 < 85; omega) rfl put_s43
theorem m28_17 : M28 17 [.val (.ref r)] st H Q = M28 18 [.val (.ref r)] (.ref r :: st) H Q := w_x (show decode kb28 17 = .ok (.aload_n 0, 1) from by decide +kernel) rfl
theorem m28_18 : M28 18 ls (.ref b :: st) (put b pre s A L B post) Q = M28 21 ls (.int (s 33) :: st) (put b pre s A L B post) Q := w_get (show decode kb28 18 = .ok (.getfield 316, 3) from by decide +kernel) gf_316 put_o rfl
theorem m28_21 : M28 21 ls (.int x :: st) H Q = if 0 < x then M28 31 ls st H Q else M28 24 ls st H Q := w_if (show decode kb28 21 = .ok (.ifCond .gt 10, 3) from by decide +kernel) (z_gt x) rfl
theorem m28_24 : M28 24 [.val (.ref r)] st H Q = M28 25 [.val (.ref r)] (.ref r :: st) H Q := w_x (show decode kb28 24 = .ok (.aload_n 0, 1) from by decide +kernel) rfl
theorem m28_25 : M28 25 ls (.ref b :: st) (put b pre s A L B post) Q = M28 28 ls (.int (s 37) :: st) (put b pre s A L B post) Q := w_get (show decode kb28 25 = .ok (.getfield 325, 3) from by decide +kernel) gf_325 put_o rfl
theorem m28_28 : M28 28 ls (.int x :: st) H Q = if x = 0 then M28 38 ls st H Q else M28 31 ls st H Q := w_if (show decode kb28 28 = .ok (.ifCond .eq 10, 3) from by decide +kernel) (z_eq x) rfl
theorem m28_38 : M28 38 [.val (.ref r)] st H Q = M28 39 [.val (.ref r)] (.ref r :: st) H Q := w_x (show decode kb28 38 = .ok (.aload_n 0, 1) from by decide +kernel) rfl
theorem m28_39 : M28 39 ls st H Q = M28 40 ls (.int 1 :: st) H Q := w_con (show decode kb28 39 = .ok (.iconst 1, 1) from by decide +kernel) rfl (by decide)
theorem pf28_203 : pfR tables_1 y28.cls y28.name 203 = some ("MacroAssembler", 74, .boolean) := by decide +kernel
theorem m28_40 : M28 40 ls (.int v :: .ref b :: st) (put b pre s A L B post) Q = M28 43 ls st (put b pre (ou s 45 (nar .boolean v)) A L B post) Q := w_put (show decode kb28 40 = .ok (.putfield 203, 3) from by decide +kernel) pf28_203 put_o (Nat.zero_le _) (by show 74 < 85; omega) rfl put_s45
theorem m28_43 : M28 43 ls [] H Q = Q none H := w_vret (show decode kb28 43 = .ok (.return_, 1) from by decide +kernel) rfl
theorem m29_0 : M29 0 ls st H Q = M29 1 ls (.int 0 :: st) H Q := w_con (show decode kb29 0 = .ok (.iconst 0, 1) from by decide +kernel) rfl (by decide)
theorem m29_1u : M29 1 [l0, .unset, l2, l3, l4] ((.int v) :: st) H Q = M29 2 [l0, .val (.int v), l2, l3, l4] st H Q := w_st (i := 1) (p := isI) (show decode kb29 1 = .ok (.istore_n 1, 1) from by decide +kernel) rfl rfl rfl rfl rfl rfl
theorem m29_2 : M29 2 [l0, .val (.int v), l2, l3, l4] st H Q = M29 3 [l0, .val (.int v), l2, l3, l4] (.int v :: st) H Q := w_x (show decode kb29 2 = .ok (.iload_n 1, 1) from by decide +kernel) rfl
theorem m29_3 : M29 3 [.val (.ref r), l1, l2, l3, l4] st H Q = M29 4 [.val (.ref r), l1, l2, l3, l4] (.ref r :: st) H Q := w_x (show decode kb29 3 = .ok (.aload_n 0, 1) from by decide +kernel) rfl
theorem m29_4 : M29 4 ls (.ref b :: st) (put b pre s A L B post) Q = M29 7 ls (.int (s 54) :: st) (put b pre s A L B post) Q := w_get (show decode kb29 4 = .ok (.getfield 322, 3) from by decide +kernel) gf_322 put_o rfl
theorem m29_7 : M29 7 ls (.int y :: .int x :: st) H Q = if x < y then M29 10 ls st H Q else M29 162 ls st H Q := w_icmpN (show decode kb29 7 = .ok (.if_icmp .ge 155, 3) from by decide +kernel) (i_ge x y) rfl
theorem m29_162 : M29 162 ls [] H Q = Q none H := w_vret (show decode kb29 162 = .ok (.return_, 1) from by decide +kernel) rfl
theorem m30_0 : M30 0 [.val (.ref r), l1, l2] st H Q = M30 1 [.val (.ref r), l1, l2] (.ref r :: st) H Q := w_x (show decode kb30 0 = .ok (.aload_n 0, 1) from by decide +kernel) rfl
theorem m30_1 : M30 1 ls st H Q = M30 2 ls (.int 0 :: st) H Q := w_con (show decode kb30 1 = .ok (.iconst 0, 1) from by decide +kernel) rfl (by decide)
theorem pf30_236 : pfR tables_1 y30.cls y30.name 236 = some ("MacroAssembler", 62, .int) := by decide +kernel
theorem m30_2 : M30 2 ls (.int v :: .ref b :: st) (put b pre s A L B post) Q = M30 5 ls st (put b pre (ou s 29 v) A L B post) Q := w_put (show decode kb30 2 = .ok (.putfield 236, 3) from by decide +kernel) pf30_236 put_o (Nat.zero_le _) (by show 62 < 85; omega) rfl put_s29
theorem m30_5 : M30 5 ls st H Q = M30 6 ls (.int 0 :: st) H Q := w_con (show decode kb30 5 = .ok (.iconst 0, 1) from by decide +kernel) rfl (by decide)
theorem m30_6u : M30 6 [l0, .unset, l2] ((.int v) :: st) H Q = M30 7 [l0, .val (.int v), l2] st H Q := w_st (i := 1) (p := isI) (show decode kb30 6 = .ok (.istore_n 1, 1) from by decide +kernel) rfl rfl rfl rfl rfl rfl
theorem m30_7 : M30 7 [l0, .val (.int v), l2] st H Q = M30 8 [l0, .val (.int v), l2] (.int v :: st) H Q := w_x (show decode kb30 7 = .ok (.iload_n 1, 1) from by decide +kernel) rfl
theorem m30_8 : M30 8 [.val (.ref r), l1, l2] st H Q = M30 9 [.val (.ref r), l1, l2] (.ref r :: st) H Q := w_x (show decode kb30 8 = .ok (.aload_n 0, 1) from by decide +kernel) rfl
theorem m30_9 : M30 9 ls (.ref b :: st) (put b pre s A L B post) Q = M30 12 ls (.int (s 28) :: st) (put b pre s A L B post) Q := w_get (show decode kb30 9 = .ok (.getfield 230, 3) from by decide +kernel) gf_230 put_o rfl
theorem m30_12 : M30 12 ls (.int y :: .int x :: st) H Q = if x < y then M30 15 ls st H Q else M30 71 ls st H Q := w_icmpN (show decode kb30 12 = .ok (.if_icmp .ge 59, 3) from by decide +kernel) (i_ge x y) rfl
theorem m30_71 : M30 71 ls st H Q = M30 72 ls (.int 0 :: st) H Q := w_con (show decode kb30 71 = .ok (.iconst 0, 1) from by decide +kernel) rfl (by decide)
theorem m30_72i : M30 72 [l0, .val (.int z), l2] ((.int v) :: st) H Q = M30 73 [l0, .val (.int v), l2] st H Q := w_st (i := 1) (p := isI) (show decode kb30 72 = .ok (.istore_n 1, 1) from by decide +kernel) rfl rfl rfl rfl rfl rfl
theorem m30_73 : M30 73 ls st H Q = M30 74 ls (.int 0 :: st) H Q := w_con (show decode kb30 73 = .ok (.iconst 0, 1) from by decide +kernel) rfl (by decide)
theorem m30_74u : M30 74 [l0, l1, .unset] ((.int v) :: st) H Q = M30 75 [l0, l1, .val (.int v)] st H Q := w_st (i := 2) (p := isI) (show decode kb30 74 = .ok (.istore_n 2, 1) from by decide +kernel) rfl rfl rfl rfl rfl rfl
theorem m30_75 : M30 75 [l0, l1, .val (.int v)] st H Q = M30 76 [l0, l1, .val (.int v)] (.int v :: st) H Q := w_x (show decode kb30 75 = .ok (.iload_n 2, 1) from by decide +kernel) rfl
theorem m30_76 : M30 76 ls st H Q = M30 78 ls (.int 64 :: st) H Q := w_con (show decode kb30 76 = .ok (.bipush 64, 2) from by decide +kernel) rfl (by decide)
theorem m30_78 : M30 78 ls (.int y :: .int x :: st) H Q = if x < y then M30 81 ls st H Q else M30 107 ls st H Q := w_icmpN (show decode kb30 78 = .ok (.if_icmp .ge 29, 3) from by decide +kernel) (i_ge x y) rfl
theorem m30_81 : M30 81 [l0, .val (.int v), l2] st H Q = M30 82 [l0, .val (.int v), l2] (.int v :: st) H Q := w_x (show decode kb30 81 = .ok (.iload_n 1, 1) from by decide +kernel) rfl
theorem m30_82 : M30 82 [.val (.ref r), l1, l2] st H Q = M30 83 [.val (.ref r), l1, l2] (.ref r :: st) H Q := w_x (show decode kb30 82 = .ok (.aload_n 0, 1) from by decide +kernel) rfl
theorem m30_83 : M30 83 ls (.ref b :: st) (put b pre s A L B post) Q = M30 86 ls (.int (s 26) :: st) (put b pre s A L B post) Q := w_get (show decode kb30 83 = .ok (.getfield 227, 3) from by decide +kernel) gf_227 put_o rfl
theorem m30_86 : M30 86 ls (.int y :: .int x :: st) H Q = if x < y then M30 89 ls st H Q else M30 107 ls st H Q := w_icmpN (show decode kb30 86 = .ok (.if_icmp .ge 21, 3) from by decide +kernel) (i_ge x y) rfl
theorem m30_89 : M30 89 [l0, .val (.int v), l2] st H Q = M30 90 [l0, .val (.int v), l2] (.int v :: st) H Q := w_x (show decode kb30 89 = .ok (.iload_n 1, 1) from by decide +kernel) rfl
theorem m30_90 : M30 90 ls st H Q = M30 92 ls (.int 32 :: st) H Q := w_con (show decode kb30 90 = .ok (.bipush 32, 2) from by decide +kernel) rfl (by decide)
theorem m30_92 : M30 92 ls (.int y :: .int x :: st) H Q = if x < y then M30 95 ls st H Q else M30 107 ls st H Q := w_icmpN (show decode kb30 92 = .ok (.if_icmp .ge 15, 3) from by decide +kernel) (i_ge x y) rfl
theorem m30_95 : M30 95 [.val (.ref r), l1, l2] st H Q = M30 96 [.val (.ref r), l1, l2] (.ref r :: st) H Q := w_x (show decode kb30 95 = .ok (.aload_n 0, 1) from by decide +kernel) rfl
theorem m30_96 : M30 96 [l0, .val (.int v), l2] st H Q = M30 97 [l0, .val (.int v), l2] (.int v :: st) H Q := w_x (show decode kb30 96 = .ok (.iload_n 1, 1) from by decide +kernel) rfl
theorem cr30_532 : vR tables_1 dn y30 532 = some (true, y31, prog_1_method_88_code, 3, (some .int), 1, 0) := pR_of (cR_of (by decide +kernel) rc_31 dn_31 dn_30 (sig := ⟨[.int], some .int⟩) (by decide +kernel) (by decide +kernel) rfl rfl) (by decide +kernel) (by decide +kernel)
theorem m30_97 (a0 : Int32) : M30 97 ls [.int a0, .ref b] (put b pre s A L B post) Q = M31 0 [.val (.ref b), .val (.int a0), .unset] [] (put b pre s A L B post) (fun v H1 => M30 100 ls (v.toList ++ []) H1 Q) := w_virt (as := [.int a0]) (rest := []) (a := b) (show decode kb30 97 = .ok (.invokevirtual 532, 3) from by decide +kernel) cr30_532 put_o rfl rfl (Nat.le_of_ble_eq_true rfl) (by show 2 ≤ 3; omega) rfl
theorem m30_100i : M30 100 [l0, .val (.int z), l2] ((.int v) :: st) H Q = M30 101 [l0, .val (.int v), l2] st H Q := w_st (i := 1) (p := isI) (show decode kb30 100 = .ok (.istore_n 1, 1) from by decide +kernel) rfl rfl rfl rfl rfl rfl
theorem m30_101 : M30 101 [l0, l1, .val (.int v)] st H Q = M30 104 [l0, l1, .val (.int (v + 1))] st H Q := w_iinc (show decode kb30 101 = .ok (.iinc 2 1, 3) from by decide +kernel) rfl (by decide) rfl
theorem m30_104 : M30 104 ls st H Q = M30 75 ls st H Q := w_x (show decode kb30 104 = .ok (.goto (-29), 3) from by decide +kernel) rfl
theorem m30_107 : M30 107 ls [] H Q = Q none H := w_vret (show decode kb30 107 = .ok (.return_, 1) from by decide +kernel) rfl
theorem m31_0 : M31 0 [.val (.ref r), l1, l2] st H Q = M31 1 [.val (.ref r), l1, l2] (.ref r :: st) H Q := w_x (show decode kb31 0 = .ok (.aload_n 0, 1) from by decide +kernel) rfl
theorem m31_1 : M31 1 ls (.ref b :: st) (put b pre s A L B post) Q = M31 4 ls (.ref (b + 4) :: st) (put b pre s A L B post) Q := w_get (show decode kb31 1 = .ok (.getfield 84, 3) from by decide +kernel) gf_84 put_o rfl
theorem m31_4 : M31 4 [l0, .val (.int v), l2] st H Q = M31 5 [l0, .val (.int v), l2] (.int v :: st) H Q := w_x (show decode kb31 4 = .ok (.iload_n 1, 1) from by decide +kernel) rfl
theorem m31_5  : M31 5 ls (.int j :: .ref (b + 4) :: st) (put b pre s A L B post) Q = (inB j (A 3) ∧ M31 6 ls (.int (getA (A 3) j) :: st) (put b pre s A L B post) Q) := w_ild (show decode kb31 5 = .ok (.iaload, 1) from by decide +kernel) rfl put_a3
theorem m31_6u : M31 6 [l0, l1, .unset] ((.int v) :: st) H Q = M31 7 [l0, l1, .val (.int v)] st H Q := w_st (i := 2) (p := isI) (show decode kb31 6 = .ok (.istore_n 2, 1) from by decide +kernel) rfl rfl rfl rfl rfl rfl
theorem m31_7 : M31 7 [l0, l1, .val (.int v)] st H Q = M31 8 [l0, l1, .val (.int v)] (.int v :: st) H Q := w_x (show decode kb31 7 = .ok (.iload_n 2, 1) from by decide +kernel) rfl
theorem m31_8 : M31 8 ls (.int x :: st) H Q = if x < 0 then M31 31 ls st H Q else M31 11 ls st H Q := w_if (show decode kb31 8 = .ok (.ifCond .lt 23, 3) from by decide +kernel) (z_lt x) rfl
theorem m31_11 : M31 11 [l0, l1, .val (.int v)] st H Q = M31 12 [l0, l1, .val (.int v)] (.int v :: st) H Q := w_x (show decode kb31 11 = .ok (.iload_n 2, 1) from by decide +kernel) rfl
theorem m31_12 : M31 12 ls st H Q = M31 13 ls (.int 3 :: st) H Q := w_con (show decode kb31 12 = .ok (.iconst 3, 1) from by decide +kernel) rfl (by decide)
theorem m31_13 : M31 13 ls (.int y :: .int x :: st) H Q = if y < x then M31 31 ls st H Q else M31 16 ls st H Q := w_icmp (show decode kb31 13 = .ok (.if_icmp .gt 18, 3) from by decide +kernel) (i_gt x y) rfl
theorem m31_16 : M31 16 [.val (.ref r), l1, l2] st H Q = M31 17 [.val (.ref r), l1, l2] (.ref r :: st) H Q := w_x (show decode kb31 16 = .ok (.aload_n 0, 1) from by decide +kernel) rfl
theorem m31_17 : M31 17 [l0, l1, .val (.int v)] st H Q = M31 18 [l0, l1, .val (.int v)] (.int v :: st) H Q := w_x (show decode kb31 17 = .ok (.iload_n 2, 1) from by decide +kernel) rfl
theorem cr31_526 : vR tables_1 dn y31 526 = some (true, y32, prog_1_method_85_code, 4, none, 1, 0) := pR_of (cR_of (by decide +kernel) rc_32 dn_32 dn_31 (sig := ⟨[.int], none⟩) (by decide +kernel) (by decide +kernel) rfl rfl) (by decide +kernel) (by decide +kernel)
theorem m31_18 (a0 : Int32) : M31 18 ls [.int a0, .ref b] (put b pre s A L B post) Q = M32 0 [.val (.ref b), .val (.int a0), .unset, .unset] [] (put b pre s A L B post) (fun v H1 => M31 21 ls (v.toList ++ []) H1 Q) := w_virt (as := [.int a0]) (rest := []) (a := b) (show decode kb31 18 = .ok (.invokevirtual 526, 3) from by decide +kernel) cr31_526 put_o rfl rfl (Nat.le_of_ble_eq_true rfl) (by show 2 ≤ 4; omega) rfl
theorem m31_21 : M31 21 [.val (.ref r), l1, l2] st H Q = M31 22 [.val (.ref r), l1, l2] (.ref r :: st) H Q := w_x (show decode kb31 21 = .ok (.aload_n 0, 1) from by decide +kernel) rfl
theorem m31_22 : M31 22 ls st H Q = M31 24 ls (.int 10 :: st) H Q := w_con (show decode kb31 22 = .ok (.bipush 10, 2) from by decide +kernel) rfl (by decide)
theorem cr31_519 : vR tables_1 dn y31 519 = some (true, y36, prog_1_method_83_code, 2, none, 1, 37) := pR_of (cR_of (by decide +kernel) rc_36 dn_36 dn_31 (sig := ⟨[.int], none⟩) (by decide +kernel) (by decide +kernel) rfl rfl) (by decide +kernel) (by decide +kernel)
theorem m31_24 (a0 : Int32) : M31 24 ls [.int a0, .ref b] (put b pre s A L B post) Q = M36 0 [.val (.ref b), .val (.int a0)] [] (put b pre s A L B post) (fun v H1 => M31 27 ls (v.toList ++ []) H1 Q) := w_virt (as := [.int a0]) (rest := []) (a := b) (show decode kb31 24 = .ok (.invokevirtual 519, 3) from by decide +kernel) cr31_519 put_o rfl rfl (Nat.le_of_ble_eq_true rfl) (by show 2 ≤ 2; omega) rfl
theorem m31_27 : M31 27 [l0, .val (.int v), l2] st H Q = M31 28 [l0, .val (.int v), l2] (.int v :: st) H Q := w_x (show decode kb31 27 = .ok (.iload_n 1, 1) from by decide +kernel) rfl
theorem m31_28 : M31 28 ls st H Q = M31 29 ls (.int 1 :: st) H Q := w_con (show decode kb31 28 = .ok (.iconst 1, 1) from by decide +kernel) rfl (by decide)
theorem m31_29 : M31 29 ls (.int y :: .int x :: st) H Q = M31 30 ls (.int (x + y) :: st) H Q := w_x (show decode kb31 29 = .ok (.iadd, 1) from by decide +kernel) rfl
theorem m31_30 : M31 30 ls (.int z :: st) H Q = Q (some (.int z)) H := w_iret (show decode kb31 30 = .ok (.ireturn, 1) from by decide +kernel) rfl
theorem m32_0 : M32 0 [.val (.ref r), l1, l2, l3] st H Q = M32 1 [.val (.ref r), l1, l2, l3] (.ref r :: st) H Q := w_x (show decode kb32 0 = .ok (.aload_n 0, 1) from by decide +kernel) rfl
theorem m32_1 : M32 1 [l0, .val (.int v), l2, l3] st H Q = M32 2 [l0, .val (.int v), l2, l3] (.int v :: st) H Q := w_x (show decode kb32 1 = .ok (.iload_n 1, 1) from by decide +kernel) rfl
theorem cr32_307 : vR tables_1 dn y32 307 = some (true, y19, prog_1_method_33_code, 2, (some .long), 1, 3) := pR_of (cR_of (by decide +kernel) rc_19 dn_19 dn_32 (sig := ⟨[.int], some .long⟩) (by decide +kernel) (by decide +kernel) rfl rfl) (by decide +kernel) (by decide +kernel)
theorem m32_2 (a0 : Int32) : M32 2 ls [.int a0, .ref b] (put b pre s A L B post) Q = M19 0 [.val (.ref b), .val (.int a0)] [] (put b pre s A L B post) (fun v H1 => M32 5 ls (v.toList ++ []) H1 Q) := w_virt (as := [.int a0]) (rest := []) (a := b) (show decode kb32 2 = .ok (.invokevirtual 307, 3) from by decide +kernel) cr32_307 put_o rfl rfl (Nat.le_of_ble_eq_true rfl) (by show 2 ≤ 2; omega) rfl
theorem m32_5 : M32 5 [l0, l1, .unset, .unset] (.long J1 :: st) H Q = M32 6 [l0, l1, .val (.long J1), .second] st H Q := w_x (show decode kb32 5 = .ok (.lstore_n 2, 1) from by decide +kernel) rfl
theorem m32_6 : M32 6 [.val (.ref r), l1, l2, l3] st H Q = M32 7 [.val (.ref r), l1, l2, l3] (.ref r :: st) H Q := w_x (show decode kb32 6 = .ok (.aload_n 0, 1) from by decide +kernel) rfl
theorem m32_7 : M32 7 [l0, l1, .val (.long J1), l3] st H Q = M32 8 [l0, l1, .val (.long J1), l3] (.long J1 :: st) H Q := w_x (show decode kb32 7 = .ok (.lload_n 2, 1) from by decide +kernel) rfl
theorem cr32_522 : vR tables_1 dn y32 522 = some (true, y33, prog_1_method_84_code, 6, none, 1, 0) := pR_of (cR_of (by decide +kernel) rc_33 dn_33 dn_32 (sig := ⟨[.long], none⟩) (by decide +kernel) (by decide +kernel) rfl rfl) (by decide +kernel) (by decide +kernel)
theorem m32_8 (a0 : Int64) : M32 8 ls [.long a0, .ref b] (put b pre s A L B post) Q = M33 0 [.val (.ref b), .val (.long a0), .second, .unset, .unset, .unset] [] (put b pre s A L B post) (fun v H1 => M32 11 ls (v.toList ++ []) H1 Q) := w_virt (as := [.long a0]) (rest := []) (a := b) (show decode kb32 8 = .ok (.invokevirtual 522, 3) from by decide +kernel) cr32_522 put_o rfl rfl (Nat.le_of_ble_eq_true rfl) (by show 3 ≤ 6; omega) rfl
theorem m32_11 : M32 11 ls [] H Q = Q none H := w_vret (show decode kb32 11 = .ok (.return_, 1) from by decide +kernel) rfl
theorem m33_0 : M33 0 [.val (.ref r), l1, l2, l3, l4, l5] st H Q = M33 1 [.val (.ref r), l1, l2, l3, l4, l5] (.ref r :: st) H Q := w_x (show decode kb33 0 = .ok (.aload_n 0, 1) from by decide +kernel) rfl
theorem m33_1 : M33 1 [l0, .val (.long J1), l2, l3, l4, l5] st H Q = M33 2 [l0, .val (.long J1), l2, l3, l4, l5] (.long J1 :: st) H Q := w_x (show decode kb33 1 = .ok (.lload_n 1, 1) from by decide +kernel) rfl
theorem cr33_255 : vR tables_1 dn y33 255 = some (true, y34, prog_1_method_30_code, 7, (some .int), 1, 0) := pR_of (cR_of (by decide +kernel) rc_34 dn_34 dn_33 (sig := ⟨[.long], some .int⟩) (by decide +kernel) (by decide +kernel) rfl rfl) (by decide +kernel) (by decide +kernel)
theorem m33_2 (a0 : Int64) : M33 2 ls [.long a0, .ref b] (put b pre s A L B post) Q = M34 0 [.val (.ref b), .val (.long a0), .second, .unset, .unset, .unset, .unset] [] (put b pre s A L B post) (fun v H1 => M33 5 ls (v.toList ++ []) H1 Q) := w_virt (as := [.long a0]) (rest := []) (a := b) (show decode kb33 2 = .ok (.invokevirtual 255, 3) from by decide +kernel) cr33_255 put_o rfl rfl (Nat.le_of_ble_eq_true rfl) (by show 3 ≤ 7; omega) rfl
theorem m33_5u : M33 5 [l0, l1, l2, .unset, l4, l5] ((.int v) :: st) H Q = M33 6 [l0, l1, l2, .val (.int v), l4, l5] st H Q := w_st (i := 3) (p := isI) (show decode kb33 5 = .ok (.istore_n 3, 1) from by decide +kernel) rfl rfl rfl rfl rfl rfl
theorem m33_6 : M33 6 ls st H Q = M33 7 ls (.int 0 :: st) H Q := w_con (show decode kb33 6 = .ok (.iconst 0, 1) from by decide +kernel) rfl (by decide)
theorem m33_7u : M33 7 [l0, l1, l2, l3, .unset, l5] ((.int v) :: st) H Q = M33 9 [l0, l1, l2, l3, .val (.int v), l5] st H Q := w_st (i := 4) (p := isI) (show decode kb33 7 = .ok (.istore 4, 2) from by decide +kernel) rfl rfl rfl rfl rfl rfl
theorem m33_9 : M33 9 [l0, l1, l2, l3, .val (.int v), l5] st H Q = M33 11 [l0, l1, l2, l3, .val (.int v), l5] (.int v :: st) H Q := w_x (show decode kb33 9 = .ok (.iload 4, 2) from by decide +kernel) rfl
theorem m33_11 : M33 11 [l0, l1, l2, .val (.int v), l4, l5] st H Q = M33 12 [l0, l1, l2, .val (.int v), l4, l5] (.int v :: st) H Q := w_x (show decode kb33 11 = .ok (.iload_n 3, 1) from by decide +kernel) rfl
theorem m33_12 : M33 12 ls (.int y :: .int x :: st) H Q = if x < y then M33 15 ls st H Q else M33 37 ls st H Q := w_icmpN (show decode kb33 12 = .ok (.if_icmp .ge 25, 3) from by decide +kernel) (i_ge x y) rfl
theorem m33_15 : M33 15 [.val (.ref r), l1, l2, l3, l4, l5] st H Q = M33 16 [.val (.ref r), l1, l2, l3, l4, l5] (.ref r :: st) H Q := w_x (show decode kb33 15 = .ok (.aload_n 0, 1) from by decide +kernel) rfl
theorem m33_16 : M33 16 [l0, .val (.long J1), l2, l3, l4, l5] st H Q = M33 17 [l0, .val (.long J1), l2, l3, l4, l5] (.long J1 :: st) H Q := w_x (show decode kb33 16 = .ok (.lload_n 1, 1) from by decide +kernel) rfl
theorem m33_17 : M33 17 [l0, l1, l2, l3, .val (.int v), l5] st H Q = M33 19 [l0, l1, l2, l3, .val (.int v), l5] (.int v :: st) H Q := w_x (show decode kb33 17 = .ok (.iload 4, 2) from by decide +kernel) rfl
theorem m33_19 : M33 19 [l0, l1, l2, .val (.int v), l4, l5] st H Q = M33 20 [l0, l1, l2, .val (.int v), l4, l5] (.int v :: st) H Q := w_x (show decode kb33 19 = .ok (.iload_n 3, 1) from by decide +kernel) rfl
theorem cr33_259 : vR tables_1 dn y33 259 = some (true, y35, prog_1_method_31_code, 5, (some .int), 3, 2) := pR_of (cR_of (by decide +kernel) rc_35 dn_35 dn_33 (sig := ⟨[.long, .int, .int], some .int⟩) (by decide +kernel) (by decide +kernel) rfl rfl) (by decide +kernel) (by decide +kernel)
theorem m33_20 (a0 : Int64) (a1 : Int32) (a2 : Int32) : M33 20 ls [.int a2, .int a1, .long a0, .ref b] (put b pre s A L B post) Q = M35 0 [.val (.ref b), .val (.long a0), .second, .val (.int a1), .val (.int a2)] [] (put b pre s A L B post) (fun v H1 => M33 23 ls (v.toList ++ []) H1 Q) := w_virt (as := [.int a2, .int a1, .long a0]) (rest := []) (a := b) (show decode kb33 20 = .ok (.invokevirtual 259, 3) from by decide +kernel) cr33_259 put_o rfl rfl (Nat.le_of_ble_eq_true rfl) (by show 5 ≤ 5; omega) rfl
theorem m33_23u : M33 23 [l0, l1, l2, l3, l4, .unset] ((.int v) :: st) H Q = M33 25 [l0, l1, l2, l3, l4, .val (.int v)] st H Q := w_st (i := 5) (p := isI) (show decode kb33 23 = .ok (.istore 5, 2) from by decide +kernel) rfl rfl rfl rfl rfl rfl
theorem m33_23i : M33 23 [l0, l1, l2, l3, l4, .val (.int z)] ((.int v) :: st) H Q = M33 25 [l0, l1, l2, l3, l4, .val (.int v)] st H Q := w_st (i := 5) (p := isI) (show decode kb33 23 = .ok (.istore 5, 2) from by decide +kernel) rfl rfl rfl rfl rfl rfl
theorem m33_23r : M33 23 [l0, l1, l2, l3, l4, .val (.ref q)] ((.int v) :: st) H Q = M33 25 [l0, l1, l2, l3, l4, .val (.int v)] st H Q := w_st (i := 5) (p := isI) (show decode kb33 23 = .ok (.istore 5, 2) from by decide +kernel) rfl rfl rfl rfl rfl rfl
theorem m33_25 : M33 25 [.val (.ref r), l1, l2, l3, l4, l5] st H Q = M33 26 [.val (.ref r), l1, l2, l3, l4, l5] (.ref r :: st) H Q := w_x (show decode kb33 25 = .ok (.aload_n 0, 1) from by decide +kernel) rfl
theorem m33_26 : M33 26 [l0, l1, l2, l3, l4, .val (.int v)] st H Q = M33 28 [l0, l1, l2, l3, l4, .val (.int v)] (.int v :: st) H Q := w_x (show decode kb33 26 = .ok (.iload 5, 2) from by decide +kernel) rfl
theorem cr33_519 : vR tables_1 dn y33 519 = some (true, y36, prog_1_method_83_code, 2, none, 1, 5) := pR_of (cR_of (by decide +kernel) rc_36 dn_36 dn_33 (sig := ⟨[.int], none⟩) (by decide +kernel) (by decide +kernel) rfl rfl) (by decide +kernel) (by decide +kernel)
theorem m33_28 (a0 : Int32) : M33 28 ls [.int a0, .ref b] (put b pre s A L B post) Q = M36 0 [.val (.ref b), .val (.int a0)] [] (put b pre s A L B post) (fun v H1 => M33 31 ls (v.toList ++ []) H1 Q) := w_virt (as := [.int a0]) (rest := []) (a := b) (show decode kb33 28 = .ok (.invokevirtual 519, 3) from by decide +kernel) cr33_519 put_o rfl rfl (Nat.le_of_ble_eq_true rfl) (by show 2 ≤ 2; omega) rfl
theorem m33_31 : M33 31 [l0, l1, l2, l3, .val (.int v), l5] st H Q = M33 34 [l0, l1, l2, l3, .val (.int (v + 1)), l5] st H Q := w_iinc (show decode kb33 31 = .ok (.iinc 4 1, 3) from by decide +kernel) rfl (by decide) rfl
theorem m33_34 : M33 34 ls st H Q = M33 9 ls st H Q := w_x (show decode kb33 34 = .ok (.goto (-25), 3) from by decide +kernel) rfl
theorem m33_37 : M33 37 ls [] H Q = Q none H := w_vret (show decode kb33 37 = .ok (.return_, 1) from by decide +kernel) rfl
theorem m34_0 : M34 0 [l0, .val (.long J1), l2, l3, l4, l5, l6] st H Q = M34 1 [l0, .val (.long J1), l2, l3, l4, l5, l6] (.long J1 :: st) H Q := w_x (show decode kb34 0 = .ok (.lload_n 1, 1) from by decide +kernel) rfl
theorem m34_1 : M34 1 [l0, l1, l2, .unset, .unset, l5, l6] (.long J1 :: st) H Q = M34 2 [l0, l1, l2, .val (.long J1), .second, l5, l6] st H Q := w_x (show decode kb34 1 = .ok (.lstore_n 3, 1) from by decide +kernel) rfl
theorem m34_2 : M34 2 ls st H Q = M34 3 ls (.int 0 :: st) H Q := w_con (show decode kb34 2 = .ok (.iconst 0, 1) from by decide +kernel) rfl (by decide)
theorem m34_3u : M34 3 [l0, l1, l2, l3, l4, .unset, l6] ((.int v) :: st) H Q = M34 5 [l0, l1, l2, l3, l4, .val (.int v), l6] st H Q := w_st (i := 5) (p := isI) (show decode kb34 3 = .ok (.istore 5, 2) from by decide +kernel) rfl rfl rfl rfl rfl rfl
theorem m34_5 : M34 5 ls st H Q = M34 6 ls (.int 0 :: st) H Q := w_con (show decode kb34 5 = .ok (.iconst 0, 1) from by decide +kernel) rfl (by decide)
theorem m34_6u : M34 6 [l0, l1, l2, l3, l4, l5, .unset] ((.int v) :: st) H Q = M34 8 [l0, l1, l2, l3, l4, l5, .val (.int v)] st H Q := w_st (i := 6) (p := isI) (show decode kb34 6 = .ok (.istore 6, 2) from by decide +kernel) rfl rfl rfl rfl rfl rfl
theorem m34_8 : M34 8 [l0, l1, l2, l3, l4, l5, .val (.int v)] st H Q = M34 10 [l0, l1, l2, l3, l4, l5, .val (.int v)] (.int v :: st) H Q := w_x (show decode kb34 8 = .ok (.iload 6, 2) from by decide +kernel) rfl
theorem m34_10 : M34 10 ls st H Q = M34 12 ls (.int 9 :: st) H Q := w_con (show decode kb34 10 = .ok (.bipush 9, 2) from by decide +kernel) rfl (by decide)
theorem m34_12 : M34 12 ls (.int y :: .int x :: st) H Q = if x < y then M34 15 ls st H Q else M34 35 ls st H Q := w_icmpN (show decode kb34 12 = .ok (.if_icmp .ge 23, 3) from by decide +kernel) (i_ge x y) rfl
theorem m34_15 : M34 15 [l0, l1, l2, .val (.long J1), l4, l5, l6] st H Q = M34 16 [l0, l1, l2, .val (.long J1), l4, l5, l6] (.long J1 :: st) H Q := w_x (show decode kb34 15 = .ok (.lload_n 3, 1) from by decide +kernel) rfl
theorem m34_16 : M34 16 ls st H Q = M34 17 ls (.long 0 :: st) H Q := w_con (show decode kb34 16 = .ok (.lconst 0, 1) from by decide +kernel) rfl (by decide)
theorem m34_17 : M34 17 ls (.long J2 :: .long J1 :: st) H Q = M34 18 ls (.int (XT.cmpL J1 J2) :: st) H Q := w_x (show decode kb34 17 = .ok (.lcmp, 1) from by decide +kernel) rfl
theorem m34_18 : M34 18 ls (.int x :: st) H Q = if 0 < x then M34 21 ls st H Q else M34 35 ls st H Q := w_ifN (show decode kb34 18 = .ok (.ifCond .le 17, 3) from by decide +kernel) (z_le x) rfl
theorem m34_21 : M34 21 [l0, l1, l2, .val (.long J1), l4, l5, l6] st H Q = M34 22 [l0, l1, l2, .val (.long J1), l4, l5, l6] (.long J1 :: st) H Q := w_x (show decode kb34 21 = .ok (.lload_n 3, 1) from by decide +kernel) rfl
theorem m34_22 : M34 22 ls st H Q = M34 24 ls (.int 7 :: st) H Q := w_con (show decode kb34 22 = .ok (.bipush 7, 2) from by decide +kernel) rfl (by decide)
theorem m34_24 : M34 24 ls (.int y :: .long J1 :: st) H Q = M34 25 ls (.long (XT.ushrL J1 y) :: st) H Q := w_x (show decode kb34 24 = .ok (.lushr, 1) from by decide +kernel) rfl
theorem m34_25 : M34 25 [l0, l1, l2, .val (.long J2), .second, l5, l6] (.long J1 :: st) H Q = M34 26 [l0, l1, l2, .val (.long J1), .second, l5, l6] st H Q := w_x (show decode kb34 25 = .ok (.lstore_n 3, 1) from by decide +kernel) rfl
theorem m34_26 : M34 26 [l0, l1, l2, l3, l4, .val (.int v), l6] st H Q = M34 29 [l0, l1, l2, l3, l4, .val (.int (v + 1)), l6] st H Q := w_iinc (show decode kb34 26 = .ok (.iinc 5 1, 3) from by decide +kernel) rfl (by decide) rfl
theorem m34_29 : M34 29 [l0, l1, l2, l3, l4, l5, .val (.int v)] st H Q = M34 32 [l0, l1, l2, l3, l4, l5, .val (.int (v + 1))] st H Q := w_iinc (show decode kb34 29 = .ok (.iinc 6 1, 3) from by decide +kernel) rfl (by decide) rfl
theorem m34_32 : M34 32 ls st H Q = M34 8 ls st H Q := w_x (show decode kb34 32 = .ok (.goto (-24), 3) from by decide +kernel) rfl
theorem m34_35 : M34 35 [l0, l1, l2, l3, l4, .val (.int v), l6] st H Q = M34 37 [l0, l1, l2, l3, l4, .val (.int v), l6] (.int v :: st) H Q := w_x (show decode kb34 35 = .ok (.iload 5, 2) from by decide +kernel) rfl
theorem m34_37 : M34 37 ls (.int z :: st) H Q = Q (some (.int z)) H := w_iret (show decode kb34 37 = .ok (.ireturn, 1) from by decide +kernel) rfl
theorem m35_0 : M35 0 [l0, .val (.long J1), l2, l3, l4] st H Q = M35 1 [l0, .val (.long J1), l2, l3, l4] (.long J1 :: st) H Q := w_x (show decode kb35 0 = .ok (.lload_n 1, 1) from by decide +kernel) rfl
theorem m35_1 : M35 1 ls st H Q = M35 3 ls (.int 7 :: st) H Q := w_con (show decode kb35 1 = .ok (.bipush 7, 2) from by decide +kernel) rfl (by decide)
theorem m35_3 : M35 3 [l0, l1, l2, l3, .val (.int v)] st H Q = M35 5 [l0, l1, l2, l3, .val (.int v)] (.int v :: st) H Q := w_x (show decode kb35 3 = .ok (.iload 4, 2) from by decide +kernel) rfl
theorem m35_5 : M35 5 ls st H Q = M35 6 ls (.int 1 :: st) H Q := w_con (show decode kb35 5 = .ok (.iconst 1, 1) from by decide +kernel) rfl (by decide)
theorem m35_6 : M35 6 ls (.int y :: .int x :: st) H Q = M35 7 ls (.int (x - y) :: st) H Q := w_x (show decode kb35 6 = .ok (.isub, 1) from by decide +kernel) rfl
theorem m35_7 : M35 7 [l0, l1, l2, .val (.int v), l4] st H Q = M35 8 [l0, l1, l2, .val (.int v), l4] (.int v :: st) H Q := w_x (show decode kb35 7 = .ok (.iload_n 3, 1) from by decide +kernel) rfl
theorem m35_8 : M35 8 ls (.int y :: .int x :: st) H Q = M35 9 ls (.int (x - y) :: st) H Q := w_x (show decode kb35 8 = .ok (.isub, 1) from by decide +kernel) rfl
theorem m35_9 : M35 9 ls (.int y :: .int x :: st) H Q = M35 10 ls (.int (x * y) :: st) H Q := w_x (show decode kb35 9 = .ok (.imul, 1) from by decide +kernel) rfl
theorem m35_10 : M35 10 ls (.int y :: .long J1 :: st) H Q = M35 11 ls (.long (XT.ushrL J1 y) :: st) H Q := w_x (show decode kb35 10 = .ok (.lushr, 1) from by decide +kernel) rfl
theorem m35_11 : M35 11 ls st H Q = M35 14 ls (.long 127 :: st) H Q := w_ldc2 (show decode kb35 11 = .ok (.ldc2_w 299, 3) from by decide +kernel) (by decide +kernel)
theorem m35_14 : M35 14 ls (.long J2 :: .long J1 :: st) H Q = M35 15 ls (.long (J1 &&& J2) :: st) H Q := w_x (show decode kb35 14 = .ok (.land, 1) from by decide +kernel) rfl
theorem m35_15 : M35 15 ls (.long J1 :: st) H Q = M35 16 ls (.int J1.toInt32 :: st) H Q := w_x (show decode kb35 15 = .ok (.l2i, 1) from by decide +kernel) rfl
theorem m35_16 : M35 16 ls (.int z :: st) H Q = Q (some (.int z)) H := w_iret (show decode kb35 16 = .ok (.ireturn, 1) from by decide +kernel) rfl
theorem m36_0 : M36 0 [.val (.ref r), l1] st H Q = M36 1 [.val (.ref r), l1] (.ref r :: st) H Q := w_x (show decode kb36 0 = .ok (.aload_n 0, 1) from by decide +kernel) rfl
theorem m36_1 : M36 1 ls (.ref b :: st) (put b pre s A L B post) Q = M36 4 ls (.int (s 29) :: st) (put b pre s A L B post) Q := w_get (show decode kb36 1 = .ok (.getfield 236, 3) from by decide +kernel) gf_236 put_o rfl
theorem m36_4 : M36 4 ls st H Q = M36 7 ls (.int 624 :: st) H Q := w_con (show decode kb36 4 = .ok (.sipush 624, 3) from by decide +kernel) rfl (by decide)
theorem m36_7 : M36 7 ls (.int y :: .int x :: st) H Q = if x < y then M36 11 ls st H Q else M36 10 ls st H Q := w_icmp (show decode kb36 7 = .ok (.if_icmp .lt 4, 3) from by decide +kernel) (i_lt x y) rfl
theorem m36_11 : M36 11 [.val (.ref r), l1] st H Q = M36 12 [.val (.ref r), l1] (.ref r :: st) H Q := w_x (show decode kb36 11 = .ok (.aload_n 0, 1) from by decide +kernel) rfl
theorem m36_12 : M36 12 ls (.ref b :: st) (put b pre s A L B post) Q = M36 15 ls (.ref (b + 7) :: st) (put b pre s A L B post) Q := w_get (show decode kb36 12 = .ok (.getfield 94, 3) from by decide +kernel) gf_94 put_o rfl
theorem m36_15 : M36 15 [.val (.ref r), l1] st H Q = M36 16 [.val (.ref r), l1] (.ref r :: st) H Q := w_x (show decode kb36 15 = .ok (.aload_n 0, 1) from by decide +kernel) rfl
theorem m36_16 : M36 16 ls (.ref b :: st) (put b pre s A L B post) Q = M36 19 ls (.int (s 29) :: st) (put b pre s A L B post) Q := w_get (show decode kb36 16 = .ok (.getfield 236, 3) from by decide +kernel) gf_236 put_o rfl
theorem m36_19 : M36 19 [l0, .val (.int v)] st H Q = M36 20 [l0, .val (.int v)] (.int v :: st) H Q := w_x (show decode kb36 19 = .ok (.iload_n 1, 1) from by decide +kernel) rfl
theorem m36_20 : M36 20 ls (.int x :: st) H Q = M36 21 ls (.int (x.toUInt32.toUInt16.toUInt32.toInt32) :: st) H Q := w_x (show decode kb36 20 = .ok (.i2c, 1) from by decide +kernel) rfl
theorem m36_21  : M36 21 ls (.int v :: .int j :: .ref (b + 7) :: st) (put b pre s A L B post) Q = (inB j (A 5) ∧ M36 22 ls st (put b pre s (ou A 5 (setA (A 5) j (nar .char v))) L B post) Q) := w_ist (show decode kb36 21 = .ok (.castore, 1) from by decide +kernel) rfl put_a5 (Nat.zero_le _) rfl put_w5
theorem m36_22 : M36 22 [.val (.ref r), l1] st H Q = M36 23 [.val (.ref r), l1] (.ref r :: st) H Q := w_x (show decode kb36 22 = .ok (.aload_n 0, 1) from by decide +kernel) rfl
theorem m36_23 : M36 23 ls ((.ref r) :: st) H Q = M36 24 ls ((.ref r) :: (.ref r) :: st) H Q := w_x (show decode kb36 23 = .ok (.dup, 1) from by decide +kernel) rfl
theorem m36_24 : M36 24 ls (.ref b :: st) (put b pre s A L B post) Q = M36 27 ls (.int (s 29) :: st) (put b pre s A L B post) Q := w_get (show decode kb36 24 = .ok (.getfield 236, 3) from by decide +kernel) gf_236 put_o rfl
theorem m36_27 : M36 27 ls st H Q = M36 28 ls (.int 1 :: st) H Q := w_con (show decode kb36 27 = .ok (.iconst 1, 1) from by decide +kernel) rfl (by decide)
theorem m36_28 : M36 28 ls (.int y :: .int x :: st) H Q = M36 29 ls (.int (x + y) :: st) H Q := w_x (show decode kb36 28 = .ok (.iadd, 1) from by decide +kernel) rfl
theorem pf36_236 : pfR tables_1 y36.cls y36.name 236 = some ("MacroAssembler", 62, .int) := by decide +kernel
theorem m36_29 : M36 29 ls (.int v :: .ref b :: st) (put b pre s A L B post) Q = M36 32 ls st (put b pre (ou s 29 v) A L B post) Q := w_put (show decode kb36 29 = .ok (.putfield 236, 3) from by decide +kernel) pf36_236 put_o (Nat.zero_le _) (by show 62 < 85; omega) rfl put_s29
theorem m36_32 : M36 32 ls [] H Q = Q none H := w_vret (show decode kb36 32 = .ok (.return_, 1) from by decide +kernel) rfl
theorem m37_0 : M37 0 [.val (.ref r)] st H Q = M37 1 [.val (.ref r)] (.ref r :: st) H Q := w_x (show decode kb37 0 = .ok (.aload_n 0, 1) from by decide +kernel) rfl
theorem m37_1 : M37 1 ls (.ref b :: st) (put b pre s A L B post) Q = M37 4 ls (.int (s 22) :: st) (put b pre s A L B post) Q := w_get (show decode kb37 1 = .ok (.getfield 186, 3) from by decide +kernel) gf_186 put_o rfl
theorem m37_4 : M37 4 ls (.int z :: st) H Q = Q (some (.int z)) H := w_iret (show decode kb37 4 = .ok (.ireturn, 1) from by decide +kernel) rfl
theorem m38_0 : M38 0 [.val (.ref r)] st H Q = M38 1 [.val (.ref r)] (.ref r :: st) H Q := w_x (show decode kb38 0 = .ok (.aload_n 0, 1) from by decide +kernel) rfl
theorem m38_1 : M38 1 ls (.ref b :: st) (put b pre s A L B post) Q = M38 4 ls (.int (s 24) :: st) (put b pre s A L B post) Q := w_get (show decode kb38 1 = .ok (.getfield 221, 3) from by decide +kernel) gf_221 put_o rfl
theorem m38_4 : M38 4 ls (.int z :: st) H Q = Q (some (.int z)) H := w_iret (show decode kb38 4 = .ok (.ireturn, 1) from by decide +kernel) rfl
theorem m39_0 : M39 0 [.val (.ref r)] st H Q = M39 1 [.val (.ref r)] (.ref r :: st) H Q := w_x (show decode kb39 0 = .ok (.aload_n 0, 1) from by decide +kernel) rfl
theorem m39_1 : M39 1 ls (.ref b :: st) (put b pre s A L B post) Q = M39 4 ls (.int (s 24) :: st) (put b pre s A L B post) Q := w_get (show decode kb39 1 = .ok (.getfield 221, 3) from by decide +kernel) gf_221 put_o rfl
theorem m39_4 : M39 4 ls st H Q = M39 5 ls (.int 1 :: st) H Q := w_con (show decode kb39 4 = .ok (.iconst 1, 1) from by decide +kernel) rfl (by decide)
theorem m39_5 : M39 5 ls (.int y :: .int x :: st) H Q = if x = y then M39 8 ls st H Q else M39 15 ls st H Q := w_icmpN (show decode kb39 5 = .ok (.if_icmp .ne 10, 3) from by decide +kernel) (i_ne x y) rfl
theorem m39_8 : M39 8 [.val (.ref r)] st H Q = M39 9 [.val (.ref r)] (.ref r :: st) H Q := w_x (show decode kb39 8 = .ok (.aload_n 0, 1) from by decide +kernel) rfl
theorem m39_9 : M39 9 ls (.ref b :: st) (put b pre s A L B post) Q = M39 12 ls (.int (s 26) :: st) (put b pre s A L B post) Q := w_get (show decode kb39 9 = .ok (.getfield 227, 3) from by decide +kernel) gf_227 put_o rfl
theorem m39_12 : M39 12 ls st H Q = M39 16 ls st H Q := w_x (show decode kb39 12 = .ok (.goto 4, 3) from by decide +kernel) rfl
theorem m39_15 : M39 15 ls st H Q = M39 16 ls (.int 0 :: st) H Q := w_con (show decode kb39 15 = .ok (.iconst 0, 1) from by decide +kernel) rfl (by decide)
theorem m39_16 : M39 16 ls (.int z :: st) H Q = Q (some (.int z)) H := w_iret (show decode kb39 16 = .ok (.ireturn, 1) from by decide +kernel) rfl
theorem m40_0 : M40 0 [l0, .val (.int v)] st H Q = M40 1 [l0, .val (.int v)] (.int v :: st) H Q := w_x (show decode kb40 0 = .ok (.iload_n 1, 1) from by decide +kernel) rfl
theorem m40_1 : M40 1 ls (.int x :: st) H Q = if x < 0 then M40 18 ls st H Q else M40 4 ls st H Q := w_if (show decode kb40 1 = .ok (.ifCond .lt 17, 3) from by decide +kernel) (z_lt x) rfl
theorem m40_4 : M40 4 [l0, .val (.int v)] st H Q = M40 5 [l0, .val (.int v)] (.int v :: st) H Q := w_x (show decode kb40 4 = .ok (.iload_n 1, 1) from by decide +kernel) rfl
theorem m40_5 : M40 5 [.val (.ref r), l1] st H Q = M40 6 [.val (.ref r), l1] (.ref r :: st) H Q := w_x (show decode kb40 5 = .ok (.aload_n 0, 1) from by decide +kernel) rfl
theorem cr40_248 : vR tables_1 dn y40 248 = some (false, y39, prog_1_method_9_code, 1, (some .int), 0, 1) := vR_of (cR_of (by decide +kernel) rc_39 dn_39 dn_40 (sig := ⟨[], some .int⟩) (by decide +kernel) (by decide +kernel) rfl rfl) (by decide +kernel) (by decide +kernel) (by decide +kernel)
theorem m40_6 (u0 : Int32) : M40 6 ls [.ref b, .int u0] (put b pre s A L B post) Q = M39 0 [.val (.ref b)] [] (put b pre s A L B post) (fun v H1 => M40 9 ls (v.toList ++ [.int u0]) H1 Q) := w_virt (as := []) (rest := [.int u0]) (a := b) (show decode kb40 6 = .ok (.invokevirtual 248, 3) from by decide +kernel) cr40_248 put_o rfl rfl (Nat.le_of_ble_eq_true rfl) (by show 1 ≤ 1; omega) rfl
theorem m40_9 : M40 9 ls (.int y :: .int x :: st) H Q = if x < y then M40 12 ls st H Q else M40 18 ls st H Q := w_icmpN (show decode kb40 9 = .ok (.if_icmp .ge 9, 3) from by decide +kernel) (i_ge x y) rfl
theorem m40_12 : M40 12 [l0, .val (.int v)] st H Q = M40 13 [l0, .val (.int v)] (.int v :: st) H Q := w_x (show decode kb40 12 = .ok (.iload_n 1, 1) from by decide +kernel) rfl
theorem m40_13 : M40 13 ls st H Q = M40 15 ls (.int 32 :: st) H Q := w_con (show decode kb40 13 = .ok (.bipush 32, 2) from by decide +kernel) rfl (by decide)
theorem m40_15 : M40 15 ls (.int y :: .int x :: st) H Q = if x < y then M40 20 ls st H Q else M40 18 ls st H Q := w_icmp (show decode kb40 15 = .ok (.if_icmp .lt 5, 3) from by decide +kernel) (i_lt x y) rfl
theorem m40_18 : M40 18 ls st H Q = M40 19 ls (.int (-1) :: st) H Q := w_con (show decode kb40 18 = .ok (.iconst (-1), 1) from by decide +kernel) rfl (by decide)
theorem m40_19 : M40 19 ls (.int z :: st) H Q = Q (some (.int z)) H := w_iret (show decode kb40 19 = .ok (.ireturn, 1) from by decide +kernel) rfl
theorem m40_20 : M40 20 [.val (.ref r), l1] st H Q = M40 21 [.val (.ref r), l1] (.ref r :: st) H Q := w_x (show decode kb40 20 = .ok (.aload_n 0, 1) from by decide +kernel) rfl
theorem m40_21 : M40 21 ls (.ref b :: st) (put b pre s A L B post) Q = M40 24 ls (.ref (b + 4) :: st) (put b pre s A L B post) Q := w_get (show decode kb40 21 = .ok (.getfield 84, 3) from by decide +kernel) gf_84 put_o rfl
theorem m40_24 : M40 24 [l0, .val (.int v)] st H Q = M40 25 [l0, .val (.int v)] (.int v :: st) H Q := w_x (show decode kb40 24 = .ok (.iload_n 1, 1) from by decide +kernel) rfl
theorem m40_25  : M40 25 ls (.int j :: .ref (b + 4) :: st) (put b pre s A L B post) Q = (inB j (A 3) ∧ M40 26 ls (.int (getA (A 3) j) :: st) (put b pre s A L B post) Q) := w_ild (show decode kb40 25 = .ok (.iaload, 1) from by decide +kernel) rfl put_a3
theorem m40_26 : M40 26 ls (.int z :: st) H Q = Q (some (.int z)) H := w_iret (show decode kb40 26 = .ok (.ireturn, 1) from by decide +kernel) rfl
theorem m41_0 : M41 0 [.val (.int v)] st H Q = M41 1 [.val (.int v)] (.int v :: st) H Q := w_x (show decode kb41 0 = .ok (.iload_n 0, 1) from by decide +kernel) rfl
theorem m41_1 : M41 1 ls st H Q = M41 3 ls (.int 10 :: st) H Q := w_con (show decode kb41 1 = .ok (.bipush 10, 2) from by decide +kernel) rfl (by decide)
theorem m41_3 : M41 3 ls (.int y :: .int x :: st) H Q = if x = y then M41 18 ls st H Q else M41 6 ls st H Q := w_icmp (show decode kb41 3 = .ok (.if_icmp .eq 15, 3) from by decide +kernel) (i_eq x y) rfl
theorem m41_6 : M41 6 [.val (.int v)] st H Q = M41 7 [.val (.int v)] (.int v :: st) H Q := w_x (show decode kb41 6 = .ok (.iload_n 0, 1) from by decide +kernel) rfl
theorem m41_7 : M41 7 ls st H Q = M41 9 ls (.int 32 :: st) H Q := w_con (show decode kb41 7 = .ok (.bipush 32, 2) from by decide +kernel) rfl (by decide)
theorem m41_9 : M41 9 ls (.int y :: .int x :: st) H Q = if x < y then M41 22 ls st H Q else M41 12 ls st H Q := w_icmp (show decode kb41 9 = .ok (.if_icmp .lt 13, 3) from by decide +kernel) (i_lt x y) rfl
theorem m41_12 : M41 12 [.val (.int v)] st H Q = M41 13 [.val (.int v)] (.int v :: st) H Q := w_x (show decode kb41 12 = .ok (.iload_n 0, 1) from by decide +kernel) rfl
theorem m41_13 : M41 13 ls st H Q = M41 15 ls (.int 126 :: st) H Q := w_con (show decode kb41 13 = .ok (.bipush 126, 2) from by decide +kernel) rfl (by decide)
theorem m41_15 : M41 15 ls (.int y :: .int x :: st) H Q = if y < x then M41 22 ls st H Q else M41 18 ls st H Q := w_icmp (show decode kb41 15 = .ok (.if_icmp .gt 7, 3) from by decide +kernel) (i_gt x y) rfl
theorem m41_18 : M41 18 ls st H Q = M41 19 ls (.int 1 :: st) H Q := w_con (show decode kb41 18 = .ok (.iconst 1, 1) from by decide +kernel) rfl (by decide)
theorem m41_19 : M41 19 ls st H Q = M41 23 ls st H Q := w_x (show decode kb41 19 = .ok (.goto 4, 3) from by decide +kernel) rfl
theorem m41_22 : M41 22 ls st H Q = M41 23 ls (.int 0 :: st) H Q := w_con (show decode kb41 22 = .ok (.iconst 0, 1) from by decide +kernel) rfl (by decide)
theorem m41_23 : M41 23 ls (.int z :: st) H Q = Q (some (.int (nar .boolean z))) H := w_iretN (show decode kb41 23 = .ok (.ireturn, 1) from by decide +kernel) rfl (by simp)
theorem m42_0 : M42 0 ls st H Q = M42 3 ls (.ref H.length :: st) (H ++ [(.object "MacroAssembler", D0)]) Q := (w_new (C := "MacroAssembler") at_0 (by rw [hNew, show rCls tables_1 y42.cls 7 = some "MacroAssembler" from by decide +kernel]; dsimp only; rw [if_pos (by decide +kernel)])).trans (by rw [lay0]; rfl)
theorem m42_3 : M42 3 ls ((.ref r) :: st) H Q = M42 4 ls ((.ref r) :: (.ref r) :: st) H Q := w_x at_3 rfl
theorem m42_4 : M42 4 [.val (.int v), l1, l2, l3, l4, l5, l6, l7, l8, l9, l10, l11, l12, l13, l14, l15, l16, l17] st H Q = M42 5 [.val (.int v), l1, l2, l3, l4, l5, l6, l7, l8, l9, l10, l11, l12, l13, l14, l15, l16, l17] (.int v :: st) H Q := w_x at_4 rfl
theorem cr42_9 : nR tables_1 dn y42 9 = some (y0, prog_1_method_1_code, 3, none, 1, 94) := nR_of (cR_of (by decide +kernel) rc_0 dn_0 dn_42 (sig := ⟨[.int], none⟩) (by decide +kernel) (by decide +kernel) rfl rfl) rfl (by decide +kernel) rfl
theorem cr42_9_o : oR tables_1 dn y42 9 = none := by decide +kernel
theorem m42_5 (a0 : Int32) (u0 : Nat) : M42 5 ls [.int a0, .ref r, .ref u0] H Q = M0 0 [.val (.ref r), .val (.int a0), .unset] [] H (fun v H1 => M42 8 ls (v.toList ++ [.ref u0]) H1 Q) := w_spec (as := [.int a0]) (rest := [.ref u0]) (a := r) at_5 cr42_9_o cr42_9 rfl (Nat.le_of_ble_eq_true rfl) (by show 2 ≤ 3; omega) rfl
theorem m42_8u : M42 8 [l0, l1, l2, .unset, l4, l5, l6, l7, l8, l9, l10, l11, l12, l13, l14, l15, l16, l17] ((.ref r) :: st) H Q = M42 9 [l0, l1, l2, .val (.ref r), l4, l5, l6, l7, l8, l9, l10, l11, l12, l13, l14, l15, l16, l17] st H Q := w_st (i := 3) (p := Value.isRef) at_8 rfl rfl rfl rfl rfl rfl
theorem m42_9 : M42 9 [l0, l1, l2, .val (.ref r), l4, l5, l6, l7, l8, l9, l10, l11, l12, l13, l14, l15, l16, l17] st H Q = M42 10 [l0, l1, l2, .val (.ref r), l4, l5, l6, l7, l8, l9, l10, l11, l12, l13, l14, l15, l16, l17] (.ref r :: st) H Q := w_x at_9 rfl
theorem m42_10 : M42 10 ls st H Q = M42 13 ls (.long 5524552 :: st) H Q := w_ldc2 at_10 (by decide +kernel)
theorem cr42_14 : vR tables_1 dn y42 14 = some (false, y1, prog_1_method_3_code, 6, (some .int), 1, 86) := vR_of (cR_of (by decide +kernel) rc_1 dn_1 dn_42 (sig := ⟨[.long], some .int⟩) (by decide +kernel) (by decide +kernel) rfl rfl) (by decide +kernel) (by decide +kernel) (by decide +kernel)
theorem m42_13 (a0 : Int64) : M42 13 ls [.long a0, .ref b] (put b pre s A L B post) Q = M1 0 [.val (.ref b), .val (.long a0), .second, .unset, .unset, .unset] [] (put b pre s A L B post) (fun v H1 => M42 16 ls (v.toList ++ []) H1 Q) := w_virt (as := [.long a0]) (rest := []) (a := b) at_13 cr42_14 put_o rfl rfl (Nat.le_of_ble_eq_true rfl) (by show 3 ≤ 6; omega) rfl
theorem m42_16 : M42 16 ls st H Q = M42 17 ls (.int 3 :: st) H Q := w_con at_16 rfl (by decide)
theorem m42_17 : M42 17 ls (.int y :: .int x :: st) H Q = if x = y then M42 22 ls st H Q else M42 20 ls st H Q := w_icmp at_17 (i_eq x y) rfl
theorem m42_22 : M42 22 [l0, l1, l2, .val (.ref r), l4, l5, l6, l7, l8, l9, l10, l11, l12, l13, l14, l15, l16, l17] st H Q = M42 23 [l0, l1, l2, .val (.ref r), l4, l5, l6, l7, l8, l9, l10, l11, l12, l13, l14, l15, l16, l17] (.ref r :: st) H Q := w_x at_22 rfl
theorem cr42_18 : vR tables_1 dn y42 18 = some (false, y5, prog_1_method_5_code, 2, (some .int), 0, 0) := vR_of (cR_of (by decide +kernel) rc_5 dn_5 dn_42 (sig := ⟨[], some .int⟩) (by decide +kernel) (by decide +kernel) rfl rfl) (by decide +kernel) (by decide +kernel) (by decide +kernel)
theorem m42_23 : M42 23 ls [.ref b] (put b pre s A L B post) Q = M5 0 [.val (.ref b), .unset] [] (put b pre s A L B post) (fun v H1 => M42 26 ls (v.toList ++ []) H1 Q) := w_virt (as := []) (rest := []) (a := b) at_23 cr42_18 put_o rfl rfl (Nat.le_of_ble_eq_true rfl) (by show 1 ≤ 2; omega) rfl
theorem m42_26 : M42 26 ls st H Q = M42 27 ls (.int 1 :: st) H Q := w_con at_26 rfl (by decide)
theorem m42_27 : M42 27 ls (.int y :: .int x :: st) H Q = if x = y then M42 32 ls st H Q else M42 30 ls st H Q := w_icmp at_27 (i_eq x y) rfl
theorem m42_32 : M42 32 [l0, .val (.long J1), l2, l3, l4, l5, l6, l7, l8, l9, l10, l11, l12, l13, l14, l15, l16, l17] st H Q = M42 33 [l0, .val (.long J1), l2, l3, l4, l5, l6, l7, l8, l9, l10, l11, l12, l13, l14, l15, l16, l17] (.long J1 :: st) H Q := w_x at_32 rfl
theorem m42_33 : M42 33 ls st H Q = M42 36 ls (.long 255 :: st) H Q := w_ldc2 at_33 (by decide +kernel)
theorem m42_36 : M42 36 ls (.long J2 :: .long J1 :: st) H Q = M42 37 ls (.long (J1 &&& J2) :: st) H Q := w_x at_36 rfl
theorem m42_37 : M42 37 ls (.long J1 :: st) H Q = M42 38 ls (.int J1.toInt32 :: st) H Q := w_x at_37 rfl
theorem m42_38u : M42 38 [l0, l1, l2, l3, .unset, l5, l6, l7, l8, l9, l10, l11, l12, l13, l14, l15, l16, l17] ((.int v) :: st) H Q = M42 40 [l0, l1, l2, l3, .val (.int v), l5, l6, l7, l8, l9, l10, l11, l12, l13, l14, l15, l16, l17] st H Q := w_st (i := 4) (p := isI) at_38 rfl rfl rfl rfl rfl rfl
theorem m42_40 : M42 40 [l0, .val (.long J1), l2, l3, l4, l5, l6, l7, l8, l9, l10, l11, l12, l13, l14, l15, l16, l17] st H Q = M42 41 [l0, .val (.long J1), l2, l3, l4, l5, l6, l7, l8, l9, l10, l11, l12, l13, l14, l15, l16, l17] (.long J1 :: st) H Q := w_x at_40 rfl
theorem m42_41 : M42 41 ls st H Q = M42 43 ls (.int 8 :: st) H Q := w_con at_41 rfl (by decide)
theorem m42_43 : M42 43 ls (.int y :: .long J1 :: st) H Q = M42 44 ls (.long (XT.ushrL J1 y) :: st) H Q := w_x at_43 rfl
theorem m42_44 : M42 44 ls st H Q = M42 47 ls (.long 255 :: st) H Q := w_ldc2 at_44 (by decide +kernel)
theorem m42_47 : M42 47 ls (.long J2 :: .long J1 :: st) H Q = M42 48 ls (.long (J1 &&& J2) :: st) H Q := w_x at_47 rfl
theorem m42_48 : M42 48 ls (.long J1 :: st) H Q = M42 49 ls (.int J1.toInt32 :: st) H Q := w_x at_48 rfl
theorem m42_49u : M42 49 [l0, l1, l2, l3, l4, .unset, l6, l7, l8, l9, l10, l11, l12, l13, l14, l15, l16, l17] ((.int v) :: st) H Q = M42 51 [l0, l1, l2, l3, l4, .val (.int v), l6, l7, l8, l9, l10, l11, l12, l13, l14, l15, l16, l17] st H Q := w_st (i := 5) (p := isI) at_49 rfl rfl rfl rfl rfl rfl
theorem m42_51 : M42 51 [l0, .val (.long J1), l2, l3, l4, l5, l6, l7, l8, l9, l10, l11, l12, l13, l14, l15, l16, l17] st H Q = M42 52 [l0, .val (.long J1), l2, l3, l4, l5, l6, l7, l8, l9, l10, l11, l12, l13, l14, l15, l16, l17] (.long J1 :: st) H Q := w_x at_51 rfl
theorem m42_52 : M42 52 ls st H Q = M42 54 ls (.int 16 :: st) H Q := w_con at_52 rfl (by decide)
theorem m42_54 : M42 54 ls (.int y :: .long J1 :: st) H Q = M42 55 ls (.long (XT.ushrL J1 y) :: st) H Q := w_x at_54 rfl
theorem m42_55 : M42 55 ls st H Q = M42 58 ls (.long 255 :: st) H Q := w_ldc2 at_55 (by decide +kernel)
theorem m42_58 : M42 58 ls (.long J2 :: .long J1 :: st) H Q = M42 59 ls (.long (J1 &&& J2) :: st) H Q := w_x at_58 rfl
theorem m42_59 : M42 59 ls (.long J1 :: st) H Q = M42 60 ls (.int J1.toInt32 :: st) H Q := w_x at_59 rfl
theorem m42_60u : M42 60 [l0, l1, l2, l3, l4, l5, .unset, l7, l8, l9, l10, l11, l12, l13, l14, l15, l16, l17] ((.int v) :: st) H Q = M42 62 [l0, l1, l2, l3, l4, l5, .val (.int v), l7, l8, l9, l10, l11, l12, l13, l14, l15, l16, l17] st H Q := w_st (i := 6) (p := isI) at_60 rfl rfl rfl rfl rfl rfl
theorem m42_62 : M42 62 [l0, .val (.long J1), l2, l3, l4, l5, l6, l7, l8, l9, l10, l11, l12, l13, l14, l15, l16, l17] st H Q = M42 63 [l0, .val (.long J1), l2, l3, l4, l5, l6, l7, l8, l9, l10, l11, l12, l13, l14, l15, l16, l17] (.long J1 :: st) H Q := w_x at_62 rfl
theorem m42_63 : M42 63 ls st H Q = M42 65 ls (.int 24 :: st) H Q := w_con at_63 rfl (by decide)
theorem m42_65 : M42 65 ls (.int y :: .long J1 :: st) H Q = M42 66 ls (.long (XT.ushrL J1 y) :: st) H Q := w_x at_65 rfl
theorem m42_66 : M42 66 ls st H Q = M42 69 ls (.long 255 :: st) H Q := w_ldc2 at_66 (by decide +kernel)
theorem m42_69 : M42 69 ls (.long J2 :: .long J1 :: st) H Q = M42 70 ls (.long (J1 &&& J2) :: st) H Q := w_x at_69 rfl
theorem m42_70 : M42 70 ls (.long J1 :: st) H Q = M42 71 ls (.int J1.toInt32 :: st) H Q := w_x at_70 rfl
theorem m42_71u : M42 71 [l0, l1, l2, l3, l4, l5, l6, .unset, l8, l9, l10, l11, l12, l13, l14, l15, l16, l17] ((.int v) :: st) H Q = M42 73 [l0, l1, l2, l3, l4, l5, l6, .val (.int v), l8, l9, l10, l11, l12, l13, l14, l15, l16, l17] st H Q := w_st (i := 7) (p := isI) at_71 rfl rfl rfl rfl rfl rfl
theorem m42_73 : M42 73 [l0, .val (.long J1), l2, l3, l4, l5, l6, l7, l8, l9, l10, l11, l12, l13, l14, l15, l16, l17] st H Q = M42 74 [l0, .val (.long J1), l2, l3, l4, l5, l6, l7, l8, l9, l10, l11, l12, l13, l14, l15, l16, l17] (.long J1 :: st) H Q := w_x at_73 rfl
theorem m42_74 : M42 74 ls st H Q = M42 76 ls (.int 32 :: st) H Q := w_con at_74 rfl (by decide)
theorem m42_76 : M42 76 ls (.int y :: .long J1 :: st) H Q = M42 77 ls (.long (XT.ushrL J1 y) :: st) H Q := w_x at_76 rfl
theorem m42_77 : M42 77 ls st H Q = M42 80 ls (.long 255 :: st) H Q := w_ldc2 at_77 (by decide +kernel)
theorem m42_80 : M42 80 ls (.long J2 :: .long J1 :: st) H Q = M42 81 ls (.long (J1 &&& J2) :: st) H Q := w_x at_80 rfl
theorem m42_81 : M42 81 ls (.long J1 :: st) H Q = M42 82 ls (.int J1.toInt32 :: st) H Q := w_x at_81 rfl
theorem m42_82u : M42 82 [l0, l1, l2, l3, l4, l5, l6, l7, .unset, l9, l10, l11, l12, l13, l14, l15, l16, l17] ((.int v) :: st) H Q = M42 84 [l0, l1, l2, l3, l4, l5, l6, l7, .val (.int v), l9, l10, l11, l12, l13, l14, l15, l16, l17] st H Q := w_st (i := 8) (p := isI) at_82 rfl rfl rfl rfl rfl rfl
theorem m42_84 : M42 84 [l0, .val (.long J1), l2, l3, l4, l5, l6, l7, l8, l9, l10, l11, l12, l13, l14, l15, l16, l17] st H Q = M42 85 [l0, .val (.long J1), l2, l3, l4, l5, l6, l7, l8, l9, l10, l11, l12, l13, l14, l15, l16, l17] (.long J1 :: st) H Q := w_x at_84 rfl
theorem m42_85 : M42 85 ls st H Q = M42 87 ls (.int 40 :: st) H Q := w_con at_85 rfl (by decide)
theorem m42_87 : M42 87 ls (.int y :: .long J1 :: st) H Q = M42 88 ls (.long (XT.ushrL J1 y) :: st) H Q := w_x at_87 rfl
theorem m42_88 : M42 88 ls st H Q = M42 91 ls (.long 255 :: st) H Q := w_ldc2 at_88 (by decide +kernel)
theorem m42_91 : M42 91 ls (.long J2 :: .long J1 :: st) H Q = M42 92 ls (.long (J1 &&& J2) :: st) H Q := w_x at_91 rfl
theorem m42_92 : M42 92 ls (.long J1 :: st) H Q = M42 93 ls (.int J1.toInt32 :: st) H Q := w_x at_92 rfl
theorem m42_93u : M42 93 [l0, l1, l2, l3, l4, l5, l6, l7, l8, .unset, l10, l11, l12, l13, l14, l15, l16, l17] ((.int v) :: st) H Q = M42 95 [l0, l1, l2, l3, l4, l5, l6, l7, l8, .val (.int v), l10, l11, l12, l13, l14, l15, l16, l17] st H Q := w_st (i := 9) (p := isI) at_93 rfl rfl rfl rfl rfl rfl
theorem m42_95 : M42 95 [l0, .val (.long J1), l2, l3, l4, l5, l6, l7, l8, l9, l10, l11, l12, l13, l14, l15, l16, l17] st H Q = M42 96 [l0, .val (.long J1), l2, l3, l4, l5, l6, l7, l8, l9, l10, l11, l12, l13, l14, l15, l16, l17] (.long J1 :: st) H Q := w_x at_95 rfl
theorem m42_96 : M42 96 ls st H Q = M42 98 ls (.int 48 :: st) H Q := w_con at_96 rfl (by decide)
theorem m42_98 : M42 98 ls (.int y :: .long J1 :: st) H Q = M42 99 ls (.long (XT.ushrL J1 y) :: st) H Q := w_x at_98 rfl
theorem m42_99 : M42 99 ls st H Q = M42 102 ls (.long 255 :: st) H Q := w_ldc2 at_99 (by decide +kernel)
theorem m42_102 : M42 102 ls (.long J2 :: .long J1 :: st) H Q = M42 103 ls (.long (J1 &&& J2) :: st) H Q := w_x at_102 rfl
theorem m42_103 : M42 103 ls (.long J1 :: st) H Q = M42 104 ls (.int J1.toInt32 :: st) H Q := w_x at_103 rfl
theorem m42_104u : M42 104 [l0, l1, l2, l3, l4, l5, l6, l7, l8, l9, .unset, l11, l12, l13, l14, l15, l16, l17] ((.int v) :: st) H Q = M42 106 [l0, l1, l2, l3, l4, l5, l6, l7, l8, l9, .val (.int v), l11, l12, l13, l14, l15, l16, l17] st H Q := w_st (i := 10) (p := isI) at_104 rfl rfl rfl rfl rfl rfl
theorem m42_106 : M42 106 [l0, .val (.long J1), l2, l3, l4, l5, l6, l7, l8, l9, l10, l11, l12, l13, l14, l15, l16, l17] st H Q = M42 107 [l0, .val (.long J1), l2, l3, l4, l5, l6, l7, l8, l9, l10, l11, l12, l13, l14, l15, l16, l17] (.long J1 :: st) H Q := w_x at_106 rfl
theorem m42_107 : M42 107 ls st H Q = M42 109 ls (.int 56 :: st) H Q := w_con at_107 rfl (by decide)
theorem m42_109 : M42 109 ls (.int y :: .long J1 :: st) H Q = M42 110 ls (.long (XT.ushrL J1 y) :: st) H Q := w_x at_109 rfl
theorem m42_110 : M42 110 ls st H Q = M42 113 ls (.long 255 :: st) H Q := w_ldc2 at_110 (by decide +kernel)
theorem m42_113 : M42 113 ls (.long J2 :: .long J1 :: st) H Q = M42 114 ls (.long (J1 &&& J2) :: st) H Q := w_x at_113 rfl
theorem m42_114 : M42 114 ls (.long J1 :: st) H Q = M42 115 ls (.int J1.toInt32 :: st) H Q := w_x at_114 rfl
theorem m42_115u : M42 115 [l0, l1, l2, l3, l4, l5, l6, l7, l8, l9, l10, .unset, l12, l13, l14, l15, l16, l17] ((.int v) :: st) H Q = M42 117 [l0, l1, l2, l3, l4, l5, l6, l7, l8, l9, l10, .val (.int v), l12, l13, l14, l15, l16, l17] st H Q := w_st (i := 11) (p := isI) at_115 rfl rfl rfl rfl rfl rfl
theorem m42_117 : M42 117 [l0, l1, l2, l3, .val (.int v), l5, l6, l7, l8, l9, l10, l11, l12, l13, l14, l15, l16, l17] st H Q = M42 119 [l0, l1, l2, l3, .val (.int v), l5, l6, l7, l8, l9, l10, l11, l12, l13, l14, l15, l16, l17] (.int v :: st) H Q := w_x at_117 rfl
theorem m42_119 : M42 119 ls (.int x :: st) H Q = if x = 0 then M42 122 ls st H Q else M42 126 ls st H Q := w_ifN at_119 (z_ne x) rfl
theorem m42_122 : M42 122 ls st H Q = M42 123 ls (.int 0 :: st) H Q := w_con at_122 rfl (by decide)
theorem m42_123 : M42 123 ls st H Q = M42 193 ls st H Q := w_x at_123 rfl
theorem m42_126 : M42 126 [l0, l1, l2, l3, l4, .val (.int v), l6, l7, l8, l9, l10, l11, l12, l13, l14, l15, l16, l17] st H Q = M42 128 [l0, l1, l2, l3, l4, .val (.int v), l6, l7, l8, l9, l10, l11, l12, l13, l14, l15, l16, l17] (.int v :: st) H Q := w_x at_126 rfl
theorem m42_128 : M42 128 ls (.int x :: st) H Q = if x = 0 then M42 131 ls st H Q else M42 135 ls st H Q := w_ifN at_128 (z_ne x) rfl
theorem m42_131 : M42 131 ls st H Q = M42 132 ls (.int 1 :: st) H Q := w_con at_131 rfl (by decide)
theorem m42_132 : M42 132 ls st H Q = M42 193 ls st H Q := w_x at_132 rfl
theorem m42_135 : M42 135 [l0, l1, l2, l3, l4, l5, .val (.int v), l7, l8, l9, l10, l11, l12, l13, l14, l15, l16, l17] st H Q = M42 137 [l0, l1, l2, l3, l4, l5, .val (.int v), l7, l8, l9, l10, l11, l12, l13, l14, l15, l16, l17] (.int v :: st) H Q := w_x at_135 rfl
theorem m42_137 : M42 137 ls (.int x :: st) H Q = if x = 0 then M42 140 ls st H Q else M42 144 ls st H Q := w_ifN at_137 (z_ne x) rfl
theorem m42_140 : M42 140 ls st H Q = M42 141 ls (.int 2 :: st) H Q := w_con at_140 rfl (by decide)
theorem m42_141 : M42 141 ls st H Q = M42 193 ls st H Q := w_x at_141 rfl
theorem m42_144 : M42 144 [l0, l1, l2, l3, l4, l5, l6, .val (.int v), l8, l9, l10, l11, l12, l13, l14, l15, l16, l17] st H Q = M42 146 [l0, l1, l2, l3, l4, l5, l6, .val (.int v), l8, l9, l10, l11, l12, l13, l14, l15, l16, l17] (.int v :: st) H Q := w_x at_144 rfl
theorem m42_146 : M42 146 ls (.int x :: st) H Q = if x = 0 then M42 149 ls st H Q else M42 153 ls st H Q := w_ifN at_146 (z_ne x) rfl
theorem m42_149 : M42 149 ls st H Q = M42 150 ls (.int 3 :: st) H Q := w_con at_149 rfl (by decide)
theorem m42_150 : M42 150 ls st H Q = M42 193 ls st H Q := w_x at_150 rfl
theorem m42_153 : M42 153 [l0, l1, l2, l3, l4, l5, l6, l7, .val (.int v), l9, l10, l11, l12, l13, l14, l15, l16, l17] st H Q = M42 155 [l0, l1, l2, l3, l4, l5, l6, l7, .val (.int v), l9, l10, l11, l12, l13, l14, l15, l16, l17] (.int v :: st) H Q := w_x at_153 rfl
theorem m42_155 : M42 155 ls (.int x :: st) H Q = if x = 0 then M42 158 ls st H Q else M42 162 ls st H Q := w_ifN at_155 (z_ne x) rfl
theorem m42_158 : M42 158 ls st H Q = M42 159 ls (.int 4 :: st) H Q := w_con at_158 rfl (by decide)
theorem m42_159 : M42 159 ls st H Q = M42 193 ls st H Q := w_x at_159 rfl
theorem m42_162 : M42 162 [l0, l1, l2, l3, l4, l5, l6, l7, l8, .val (.int v), l10, l11, l12, l13, l14, l15, l16, l17] st H Q = M42 164 [l0, l1, l2, l3, l4, l5, l6, l7, l8, .val (.int v), l10, l11, l12, l13, l14, l15, l16, l17] (.int v :: st) H Q := w_x at_162 rfl
theorem m42_164 : M42 164 ls (.int x :: st) H Q = if x = 0 then M42 167 ls st H Q else M42 171 ls st H Q := w_ifN at_164 (z_ne x) rfl
theorem m42_167 : M42 167 ls st H Q = M42 168 ls (.int 5 :: st) H Q := w_con at_167 rfl (by decide)
theorem m42_168 : M42 168 ls st H Q = M42 193 ls st H Q := w_x at_168 rfl
theorem m42_171 : M42 171 [l0, l1, l2, l3, l4, l5, l6, l7, l8, l9, .val (.int v), l11, l12, l13, l14, l15, l16, l17] st H Q = M42 173 [l0, l1, l2, l3, l4, l5, l6, l7, l8, l9, .val (.int v), l11, l12, l13, l14, l15, l16, l17] (.int v :: st) H Q := w_x at_171 rfl
theorem m42_173 : M42 173 ls (.int x :: st) H Q = if x = 0 then M42 176 ls st H Q else M42 181 ls st H Q := w_ifN at_173 (z_ne x) rfl
theorem m42_176 : M42 176 ls st H Q = M42 178 ls (.int 6 :: st) H Q := w_con at_176 rfl (by decide)
theorem m42_178 : M42 178 ls st H Q = M42 193 ls st H Q := w_x at_178 rfl
theorem m42_181 : M42 181 [l0, l1, l2, l3, l4, l5, l6, l7, l8, l9, l10, .val (.int v), l12, l13, l14, l15, l16, l17] st H Q = M42 183 [l0, l1, l2, l3, l4, l5, l6, l7, l8, l9, l10, .val (.int v), l12, l13, l14, l15, l16, l17] (.int v :: st) H Q := w_x at_181 rfl
theorem m42_183 : M42 183 ls (.int x :: st) H Q = if x = 0 then M42 186 ls st H Q else M42 191 ls st H Q := w_ifN at_183 (z_ne x) rfl
theorem m42_186 : M42 186 ls st H Q = M42 188 ls (.int 7 :: st) H Q := w_con at_186 rfl (by decide)
theorem m42_188 : M42 188 ls st H Q = M42 193 ls st H Q := w_x at_188 rfl
theorem m42_191 : M42 191 ls st H Q = M42 193 ls (.int 8 :: st) H Q := w_con at_191 rfl (by decide)
theorem m42_193u : M42 193 [l0, l1, l2, l3, l4, l5, l6, l7, l8, l9, l10, l11, .unset, l13, l14, l15, l16, l17] ((.int v) :: st) H Q = M42 195 [l0, l1, l2, l3, l4, l5, l6, l7, l8, l9, l10, l11, .val (.int v), l13, l14, l15, l16, l17] st H Q := w_st (i := 12) (p := isI) at_193 rfl rfl rfl rfl rfl rfl
theorem m42_195 : M42 195 [l0, l1, l2, l3, l4, l5, l6, l7, l8, l9, l10, l11, .val (.int v), l13, l14, l15, l16, l17] st H Q = M42 197 [l0, l1, l2, l3, l4, l5, l6, l7, l8, l9, l10, l11, .val (.int v), l13, l14, l15, l16, l17] (.int v :: st) H Q := w_x at_195 rfl
theorem m42_197 : M42 197 ls st H Q = M42 198 ls (.int 1 :: st) H Q := w_con at_197 rfl (by decide)
theorem m42_198 : M42 198 ls (.int y :: .int x :: st) H Q = if x < y then M42 209 ls st H Q else M42 201 ls st H Q := w_icmp at_198 (i_lt x y) rfl
theorem m42_201 : M42 201 [l0, l1, l2, l3, .val (.int v), l5, l6, l7, l8, l9, l10, l11, l12, l13, l14, l15, l16, l17] st H Q = M42 203 [l0, l1, l2, l3, .val (.int v), l5, l6, l7, l8, l9, l10, l11, l12, l13, l14, l15, l16, l17] (.int v :: st) H Q := w_x at_201 rfl
theorem cr42_24 : sR tables_1 dn y42 24 = some (y41, method_2_code, 1, (some .boolean), 1, 108) := sR_of (cR_of (by decide +kernel) rc_41 dn_41 dn_42 (sig := ⟨[.int], some .boolean⟩) (by decide +kernel) (by decide +kernel) rfl rfl) (by decide +kernel)
theorem m42_203 (a0 : Int32) : M42 203 ls [.int a0] H Q = M41 0 [.val (.int a0)] [] H (fun v H1 => M42 206 ls (v.toList ++ []) H1 Q) := w_stat (as := [.int a0]) (rest := []) at_203 cr42_24 rfl (Nat.le_of_ble_eq_true rfl) (by show 1 ≤ 1; omega) rfl
theorem m42_206 : M42 206 ls (.int x :: st) H Q = if x = 0 then M42 255 ls st H Q else M42 209 ls st H Q := w_if at_206 (z_eq x) rfl
theorem m42_209 : M42 209 [l0, l1, l2, l3, l4, l5, l6, l7, l8, l9, l10, l11, .val (.int v), l13, l14, l15, l16, l17] st H Q = M42 211 [l0, l1, l2, l3, l4, l5, l6, l7, l8, l9, l10, l11, .val (.int v), l13, l14, l15, l16, l17] (.int v :: st) H Q := w_x at_209 rfl
theorem m42_211 : M42 211 ls st H Q = M42 212 ls (.int 2 :: st) H Q := w_con at_211 rfl (by decide)
theorem m42_212 : M42 212 ls (.int y :: .int x :: st) H Q = if x < y then M42 223 ls st H Q else M42 215 ls st H Q := w_icmp at_212 (i_lt x y) rfl
theorem m42_215 : M42 215 [l0, l1, l2, l3, l4, .val (.int v), l6, l7, l8, l9, l10, l11, l12, l13, l14, l15, l16, l17] st H Q = M42 217 [l0, l1, l2, l3, l4, .val (.int v), l6, l7, l8, l9, l10, l11, l12, l13, l14, l15, l16, l17] (.int v :: st) H Q := w_x at_215 rfl
theorem m42_217 (a0 : Int32) : M42 217 ls [.int a0] H Q = M41 0 [.val (.int a0)] [] H (fun v H1 => M42 220 ls (v.toList ++ []) H1 Q) := w_stat (as := [.int a0]) (rest := []) at_217 cr42_24 rfl (Nat.le_of_ble_eq_true rfl) (by show 1 ≤ 1; omega) rfl
theorem m42_220 : M42 220 ls (.int x :: st) H Q = if x = 0 then M42 255 ls st H Q else M42 223 ls st H Q := w_if at_220 (z_eq x) rfl
theorem m42_223 : M42 223 [l0, l1, l2, l3, l4, l5, l6, l7, l8, l9, l10, l11, .val (.int v), l13, l14, l15, l16, l17] st H Q = M42 225 [l0, l1, l2, l3, l4, l5, l6, l7, l8, l9, l10, l11, .val (.int v), l13, l14, l15, l16, l17] (.int v :: st) H Q := w_x at_223 rfl
theorem m42_225 : M42 225 ls st H Q = M42 226 ls (.int 3 :: st) H Q := w_con at_225 rfl (by decide)
theorem m42_226 : M42 226 ls (.int y :: .int x :: st) H Q = if x < y then M42 237 ls st H Q else M42 229 ls st H Q := w_icmp at_226 (i_lt x y) rfl
theorem m42_229 : M42 229 [l0, l1, l2, l3, l4, l5, .val (.int v), l7, l8, l9, l10, l11, l12, l13, l14, l15, l16, l17] st H Q = M42 231 [l0, l1, l2, l3, l4, l5, .val (.int v), l7, l8, l9, l10, l11, l12, l13, l14, l15, l16, l17] (.int v :: st) H Q := w_x at_229 rfl
theorem m42_231 (a0 : Int32) : M42 231 ls [.int a0] H Q = M41 0 [.val (.int a0)] [] H (fun v H1 => M42 234 ls (v.toList ++ []) H1 Q) := w_stat (as := [.int a0]) (rest := []) at_231 cr42_24 rfl (Nat.le_of_ble_eq_true rfl) (by show 1 ≤ 1; omega) rfl
theorem m42_234 : M42 234 ls (.int x :: st) H Q = if x = 0 then M42 255 ls st H Q else M42 237 ls st H Q := w_if at_234 (z_eq x) rfl
theorem m42_237 : M42 237 [l0, l1, l2, l3, l4, l5, l6, l7, l8, l9, l10, l11, .val (.int v), l13, l14, l15, l16, l17] st H Q = M42 239 [l0, l1, l2, l3, l4, l5, l6, l7, l8, l9, l10, l11, .val (.int v), l13, l14, l15, l16, l17] (.int v :: st) H Q := w_x at_237 rfl
theorem m42_239 : M42 239 ls st H Q = M42 240 ls (.int 4 :: st) H Q := w_con at_239 rfl (by decide)
theorem m42_240 : M42 240 ls (.int y :: .int x :: st) H Q = if x < y then M42 251 ls st H Q else M42 243 ls st H Q := w_icmp at_240 (i_lt x y) rfl
theorem m42_243 : M42 243 [l0, l1, l2, l3, l4, l5, l6, .val (.int v), l8, l9, l10, l11, l12, l13, l14, l15, l16, l17] st H Q = M42 245 [l0, l1, l2, l3, l4, l5, l6, .val (.int v), l8, l9, l10, l11, l12, l13, l14, l15, l16, l17] (.int v :: st) H Q := w_x at_243 rfl
theorem m42_245 (a0 : Int32) : M42 245 ls [.int a0] H Q = M41 0 [.val (.int a0)] [] H (fun v H1 => M42 248 ls (v.toList ++ []) H1 Q) := w_stat (as := [.int a0]) (rest := []) at_245 cr42_24 rfl (Nat.le_of_ble_eq_true rfl) (by show 1 ≤ 1; omega) rfl
theorem m42_248 : M42 248 ls (.int x :: st) H Q = if x = 0 then M42 255 ls st H Q else M42 251 ls st H Q := w_if at_248 (z_eq x) rfl
theorem m42_251 : M42 251 ls st H Q = M42 252 ls (.int 1 :: st) H Q := w_con at_251 rfl (by decide)
theorem m42_252 : M42 252 ls st H Q = M42 256 ls st H Q := w_x at_252 rfl
theorem m42_255 : M42 255 ls st H Q = M42 256 ls (.int 0 :: st) H Q := w_con at_255 rfl (by decide)
theorem m42_256u : M42 256 [l0, l1, l2, l3, l4, l5, l6, l7, l8, l9, l10, l11, l12, .unset, l14, l15, l16, l17] ((.int v) :: st) H Q = M42 258 [l0, l1, l2, l3, l4, l5, l6, l7, l8, l9, l10, l11, l12, .val (.int v), l14, l15, l16, l17] st H Q := w_st (i := 13) (p := isI) at_256 rfl rfl rfl rfl rfl rfl
theorem m42_258 : M42 258 [l0, l1, l2, l3, l4, l5, l6, l7, l8, l9, l10, l11, l12, .val (.int v), l14, l15, l16, l17] st H Q = M42 260 [l0, l1, l2, l3, l4, l5, l6, l7, l8, l9, l10, l11, l12, .val (.int v), l14, l15, l16, l17] (.int v :: st) H Q := w_x at_258 rfl
theorem m42_260 : M42 260 ls (.int x :: st) H Q = if x = 0 then M42 326 ls st H Q else M42 263 ls st H Q := w_if at_260 (z_eq x) rfl
theorem m42_263 : M42 263 [l0, l1, l2, l3, l4, l5, l6, l7, l8, l9, l10, l11, .val (.int v), l13, l14, l15, l16, l17] st H Q = M42 265 [l0, l1, l2, l3, l4, l5, l6, l7, l8, l9, l10, l11, .val (.int v), l13, l14, l15, l16, l17] (.int v :: st) H Q := w_x at_263 rfl
theorem m42_265 : M42 265 ls st H Q = M42 266 ls (.int 5 :: st) H Q := w_con at_265 rfl (by decide)
theorem m42_266 : M42 266 ls (.int y :: .int x :: st) H Q = if x < y then M42 277 ls st H Q else M42 269 ls st H Q := w_icmp at_266 (i_lt x y) rfl
theorem m42_269 : M42 269 [l0, l1, l2, l3, l4, l5, l6, l7, .val (.int v), l9, l10, l11, l12, l13, l14, l15, l16, l17] st H Q = M42 271 [l0, l1, l2, l3, l4, l5, l6, l7, .val (.int v), l9, l10, l11, l12, l13, l14, l15, l16, l17] (.int v :: st) H Q := w_x at_269 rfl
theorem m42_271 (a0 : Int32) : M42 271 ls [.int a0] H Q = M41 0 [.val (.int a0)] [] H (fun v H1 => M42 274 ls (v.toList ++ []) H1 Q) := w_stat (as := [.int a0]) (rest := []) at_271 cr42_24 rfl (Nat.le_of_ble_eq_true rfl) (by show 1 ≤ 1; omega) rfl
theorem m42_274 : M42 274 ls (.int x :: st) H Q = if x = 0 then M42 326 ls st H Q else M42 277 ls st H Q := w_if at_274 (z_eq x) rfl
theorem m42_277 : M42 277 [l0, l1, l2, l3, l4, l5, l6, l7, l8, l9, l10, l11, .val (.int v), l13, l14, l15, l16, l17] st H Q = M42 279 [l0, l1, l2, l3, l4, l5, l6, l7, l8, l9, l10, l11, .val (.int v), l13, l14, l15, l16, l17] (.int v :: st) H Q := w_x at_277 rfl
theorem m42_279 : M42 279 ls st H Q = M42 281 ls (.int 6 :: st) H Q := w_con at_279 rfl (by decide)
theorem m42_281 : M42 281 ls (.int y :: .int x :: st) H Q = if x < y then M42 292 ls st H Q else M42 284 ls st H Q := w_icmp at_281 (i_lt x y) rfl
theorem m42_284 : M42 284 [l0, l1, l2, l3, l4, l5, l6, l7, l8, .val (.int v), l10, l11, l12, l13, l14, l15, l16, l17] st H Q = M42 286 [l0, l1, l2, l3, l4, l5, l6, l7, l8, .val (.int v), l10, l11, l12, l13, l14, l15, l16, l17] (.int v :: st) H Q := w_x at_284 rfl
theorem m42_286 (a0 : Int32) : M42 286 ls [.int a0] H Q = M41 0 [.val (.int a0)] [] H (fun v H1 => M42 289 ls (v.toList ++ []) H1 Q) := w_stat (as := [.int a0]) (rest := []) at_286 cr42_24 rfl (Nat.le_of_ble_eq_true rfl) (by show 1 ≤ 1; omega) rfl
theorem m42_289 : M42 289 ls (.int x :: st) H Q = if x = 0 then M42 326 ls st H Q else M42 292 ls st H Q := w_if at_289 (z_eq x) rfl
theorem m42_292 : M42 292 [l0, l1, l2, l3, l4, l5, l6, l7, l8, l9, l10, l11, .val (.int v), l13, l14, l15, l16, l17] st H Q = M42 294 [l0, l1, l2, l3, l4, l5, l6, l7, l8, l9, l10, l11, .val (.int v), l13, l14, l15, l16, l17] (.int v :: st) H Q := w_x at_292 rfl
theorem m42_294 : M42 294 ls st H Q = M42 296 ls (.int 7 :: st) H Q := w_con at_294 rfl (by decide)
theorem m42_296 : M42 296 ls (.int y :: .int x :: st) H Q = if x < y then M42 307 ls st H Q else M42 299 ls st H Q := w_icmp at_296 (i_lt x y) rfl
theorem m42_299 : M42 299 [l0, l1, l2, l3, l4, l5, l6, l7, l8, l9, .val (.int v), l11, l12, l13, l14, l15, l16, l17] st H Q = M42 301 [l0, l1, l2, l3, l4, l5, l6, l7, l8, l9, .val (.int v), l11, l12, l13, l14, l15, l16, l17] (.int v :: st) H Q := w_x at_299 rfl
theorem m42_301 (a0 : Int32) : M42 301 ls [.int a0] H Q = M41 0 [.val (.int a0)] [] H (fun v H1 => M42 304 ls (v.toList ++ []) H1 Q) := w_stat (as := [.int a0]) (rest := []) at_301 cr42_24 rfl (Nat.le_of_ble_eq_true rfl) (by show 1 ≤ 1; omega) rfl
theorem m42_304 : M42 304 ls (.int x :: st) H Q = if x = 0 then M42 326 ls st H Q else M42 307 ls st H Q := w_if at_304 (z_eq x) rfl
theorem m42_307 : M42 307 [l0, l1, l2, l3, l4, l5, l6, l7, l8, l9, l10, l11, .val (.int v), l13, l14, l15, l16, l17] st H Q = M42 309 [l0, l1, l2, l3, l4, l5, l6, l7, l8, l9, l10, l11, .val (.int v), l13, l14, l15, l16, l17] (.int v :: st) H Q := w_x at_307 rfl
theorem m42_309 : M42 309 ls st H Q = M42 311 ls (.int 8 :: st) H Q := w_con at_309 rfl (by decide)
theorem m42_311 : M42 311 ls (.int y :: .int x :: st) H Q = if x < y then M42 322 ls st H Q else M42 314 ls st H Q := w_icmp at_311 (i_lt x y) rfl
theorem m42_314 : M42 314 [l0, l1, l2, l3, l4, l5, l6, l7, l8, l9, l10, .val (.int v), l12, l13, l14, l15, l16, l17] st H Q = M42 316 [l0, l1, l2, l3, l4, l5, l6, l7, l8, l9, l10, .val (.int v), l12, l13, l14, l15, l16, l17] (.int v :: st) H Q := w_x at_314 rfl
theorem m42_316 (a0 : Int32) : M42 316 ls [.int a0] H Q = M41 0 [.val (.int a0)] [] H (fun v H1 => M42 319 ls (v.toList ++ []) H1 Q) := w_stat (as := [.int a0]) (rest := []) at_316 cr42_24 rfl (Nat.le_of_ble_eq_true rfl) (by show 1 ≤ 1; omega) rfl
theorem m42_319 : M42 319 ls (.int x :: st) H Q = if x = 0 then M42 326 ls st H Q else M42 322 ls st H Q := w_if at_319 (z_eq x) rfl
theorem m42_322 : M42 322 ls st H Q = M42 323 ls (.int 1 :: st) H Q := w_con at_322 rfl (by decide)
theorem m42_323 : M42 323 ls st H Q = M42 327 ls st H Q := w_x at_323 rfl
theorem m42_326 : M42 326 ls st H Q = M42 327 ls (.int 0 :: st) H Q := w_con at_326 rfl (by decide)
theorem m42_327i : M42 327 [l0, l1, l2, l3, l4, l5, l6, l7, l8, l9, l10, l11, l12, .val (.int z), l14, l15, l16, l17] ((.int v) :: st) H Q = M42 329 [l0, l1, l2, l3, l4, l5, l6, l7, l8, l9, l10, l11, l12, .val (.int v), l14, l15, l16, l17] st H Q := w_st (i := 13) (p := isI) at_327 rfl rfl rfl rfl rfl rfl
theorem m42_329 : M42 329 [l0, l1, l2, .val (.ref r), l4, l5, l6, l7, l8, l9, l10, l11, l12, l13, l14, l15, l16, l17] st H Q = M42 330 [l0, l1, l2, .val (.ref r), l4, l5, l6, l7, l8, l9, l10, l11, l12, l13, l14, l15, l16, l17] (.ref r :: st) H Q := w_x at_329 rfl
theorem m42_330 : M42 330 [l0, .val (.long J1), l2, l3, l4, l5, l6, l7, l8, l9, l10, l11, l12, l13, l14, l15, l16, l17] st H Q = M42 331 [l0, .val (.long J1), l2, l3, l4, l5, l6, l7, l8, l9, l10, l11, l12, l13, l14, l15, l16, l17] (.long J1 :: st) H Q := w_x at_330 rfl
theorem m42_331 (a0 : Int64) : M42 331 ls [.long a0, .ref b] (put b pre s A L B post) Q = M1 0 [.val (.ref b), .val (.long a0), .second, .unset, .unset, .unset] [] (put b pre s A L B post) (fun v H1 => M42 334 ls (v.toList ++ []) H1 Q) := w_virt (as := [.long a0]) (rest := []) (a := b) at_331 cr42_14 put_o rfl rfl (Nat.le_of_ble_eq_true rfl) (by show 3 ≤ 6; omega) rfl
theorem m42_334u : M42 334 [l0, l1, l2, l3, l4, l5, l6, l7, l8, l9, l10, l11, l12, l13, .unset, l15, l16, l17] ((.int v) :: st) H Q = M42 336 [l0, l1, l2, l3, l4, l5, l6, l7, l8, l9, l10, l11, l12, l13, .val (.int v), l15, l16, l17] st H Q := w_st (i := 14) (p := isI) at_334 rfl rfl rfl rfl rfl rfl
theorem m42_336 : M42 336 [l0, l1, l2, l3, l4, l5, l6, l7, l8, l9, l10, l11, l12, .val (.int v), l14, l15, l16, l17] st H Q = M42 338 [l0, l1, l2, l3, l4, l5, l6, l7, l8, l9, l10, l11, l12, .val (.int v), l14, l15, l16, l17] (.int v :: st) H Q := w_x at_336 rfl
theorem m42_338 : M42 338 ls (.int x :: st) H Q = if x = 0 then M42 346 ls st H Q else M42 341 ls st H Q := w_if at_338 (z_eq x) rfl
theorem m42_341 : M42 341 [l0, l1, l2, l3, l4, l5, l6, l7, l8, l9, l10, l11, .val (.int v), l13, l14, l15, l16, l17] st H Q = M42 343 [l0, l1, l2, l3, l4, l5, l6, l7, l8, l9, l10, l11, .val (.int v), l13, l14, l15, l16, l17] (.int v :: st) H Q := w_x at_341 rfl
theorem m42_343 : M42 343 ls st H Q = M42 347 ls st H Q := w_x at_343 rfl
theorem m42_346 : M42 346 ls st H Q = M42 347 ls (.int (-1) :: st) H Q := w_con at_346 rfl (by decide)
theorem m42_347u : M42 347 [l0, l1, l2, l3, l4, l5, l6, l7, l8, l9, l10, l11, l12, l13, l14, .unset, l16, l17] ((.int v) :: st) H Q = M42 349 [l0, l1, l2, l3, l4, l5, l6, l7, l8, l9, l10, l11, l12, l13, l14, .val (.int v), l16, l17] st H Q := w_st (i := 15) (p := isI) at_347 rfl rfl rfl rfl rfl rfl
theorem m42_349 : M42 349 [l0, l1, l2, l3, l4, l5, l6, l7, l8, l9, l10, l11, l12, l13, .val (.int v), l15, l16, l17] st H Q = M42 351 [l0, l1, l2, l3, l4, l5, l6, l7, l8, l9, l10, l11, l12, l13, .val (.int v), l15, l16, l17] (.int v :: st) H Q := w_x at_349 rfl
theorem m42_351 : M42 351 [l0, l1, l2, l3, l4, l5, l6, l7, l8, l9, l10, l11, l12, l13, l14, .val (.int v), l16, l17] st H Q = M42 353 [l0, l1, l2, l3, l4, l5, l6, l7, l8, l9, l10, l11, l12, l13, l14, .val (.int v), l16, l17] (.int v :: st) H Q := w_x at_351 rfl
theorem m42_353 : M42 353 ls (.int y :: .int x :: st) H Q = if x = y then M42 358 ls st H Q else M42 356 ls st H Q := w_icmp at_353 (i_eq x y) rfl
theorem m42_358 : M42 358 [l0, l1, l2, l3, l4, l5, l6, l7, l8, l9, l10, l11, l12, .val (.int v), l14, l15, l16, l17] st H Q = M42 360 [l0, l1, l2, l3, l4, l5, l6, l7, l8, l9, l10, l11, l12, .val (.int v), l14, l15, l16, l17] (.int v :: st) H Q := w_x at_358 rfl
theorem m42_360 : M42 360 ls (.int x :: st) H Q = if x = 0 then M42 372 ls st H Q else M42 363 ls st H Q := w_if at_360 (z_eq x) rfl
theorem m42_363 : M42 363 [l0, l1, l2, l3, l4, l5, l6, l7, l8, l9, l10, l11, .val (.int v), l13, l14, l15, l16, l17] st H Q = M42 365 [l0, l1, l2, l3, l4, l5, l6, l7, l8, l9, l10, l11, .val (.int v), l13, l14, l15, l16, l17] (.int v :: st) H Q := w_x at_363 rfl
theorem m42_365 : M42 365 ls (.int x :: st) H Q = if 0 < x then M42 368 ls st H Q else M42 372 ls st H Q := w_ifN at_365 (z_le x) rfl
theorem m42_368 : M42 368 ls st H Q = M42 369 ls (.int 1 :: st) H Q := w_con at_368 rfl (by decide)
theorem m42_369 : M42 369 ls st H Q = M42 373 ls st H Q := w_x at_369 rfl
theorem m42_372 : M42 372 ls st H Q = M42 373 ls (.int 0 :: st) H Q := w_con at_372 rfl (by decide)
theorem m42_373u : M42 373 [l0, l1, l2, l3, l4, l5, l6, l7, l8, l9, l10, l11, l12, l13, l14, l15, .unset, l17] ((.int v) :: st) H Q = M42 375 [l0, l1, l2, l3, l4, l5, l6, l7, l8, l9, l10, l11, l12, l13, l14, l15, .val (.int v), l17] st H Q := w_st (i := 16) (p := isI) at_373 rfl rfl rfl rfl rfl rfl
theorem m42_375 : M42 375 [l0, l1, l2, l3, l4, l5, l6, l7, l8, l9, l10, l11, l12, l13, l14, l15, .val (.int v), l17] st H Q = M42 377 [l0, l1, l2, l3, l4, l5, l6, l7, l8, l9, l10, l11, l12, l13, l14, l15, .val (.int v), l17] (.int v :: st) H Q := w_x at_375 rfl
theorem m42_377 : M42 377 ls (.int x :: st) H Q = if x = 0 then M42 387 ls st H Q else M42 380 ls st H Q := w_if at_377 (z_eq x) rfl
theorem m42_380 : M42 380 ls st H Q = M42 381 ls (.int 3 :: st) H Q := w_con at_380 rfl (by decide)
theorem m42_381 : M42 381 [l0, l1, l2, l3, l4, l5, l6, l7, l8, l9, l10, l11, .val (.int v), l13, l14, l15, l16, l17] st H Q = M42 383 [l0, l1, l2, l3, l4, l5, l6, l7, l8, l9, l10, l11, .val (.int v), l13, l14, l15, l16, l17] (.int v :: st) H Q := w_x at_381 rfl
theorem m42_383 : M42 383 ls (.int y :: .int x :: st) H Q = M42 384 ls (.int (x + y) :: st) H Q := w_x at_383 rfl
theorem m42_384 : M42 384 ls st H Q = M42 388 ls st H Q := w_x at_384 rfl
theorem m42_387 : M42 387 ls st H Q = M42 388 ls (.int 3 :: st) H Q := w_con at_387 rfl (by decide)
theorem m42_388u : M42 388 [l0, l1, l2, l3, l4, l5, l6, l7, l8, l9, l10, l11, l12, l13, l14, l15, l16, .unset] ((.int v) :: st) H Q = M42 390 [l0, l1, l2, l3, l4, l5, l6, l7, l8, l9, l10, l11, l12, l13, l14, l15, l16, .val (.int v)] st H Q := w_st (i := 17) (p := isI) at_388 rfl rfl rfl rfl rfl rfl
theorem m42_390 : M42 390 [l0, l1, l2, .val (.ref r), l4, l5, l6, l7, l8, l9, l10, l11, l12, l13, l14, l15, l16, l17] st H Q = M42 391 [l0, l1, l2, .val (.ref r), l4, l5, l6, l7, l8, l9, l10, l11, l12, l13, l14, l15, l16, l17] (.ref r :: st) H Q := w_x at_390 rfl
theorem cr42_30 : vR tables_1 dn y42 30 = some (false, y37, prog_1_method_8_code, 1, (some .int), 0, 108) := vR_of (cR_of (by decide +kernel) rc_37 dn_37 dn_42 (sig := ⟨[], some .int⟩) (by decide +kernel) (by decide +kernel) rfl rfl) (by decide +kernel) (by decide +kernel) (by decide +kernel)
theorem m42_391 : M42 391 ls [.ref b] (put b pre s A L B post) Q = M37 0 [.val (.ref b)] [] (put b pre s A L B post) (fun v H1 => M42 394 ls (v.toList ++ []) H1 Q) := w_virt (as := []) (rest := []) (a := b) at_391 cr42_30 put_o rfl rfl (Nat.le_of_ble_eq_true rfl) (by show 1 ≤ 1; omega) rfl
theorem m42_394 : M42 394 [l0, l1, l2, l3, l4, l5, l6, l7, l8, l9, l10, l11, l12, l13, l14, l15, l16, .val (.int v)] st H Q = M42 396 [l0, l1, l2, l3, l4, l5, l6, l7, l8, l9, l10, l11, l12, l13, l14, l15, l16, .val (.int v)] (.int v :: st) H Q := w_x at_394 rfl
theorem m42_396 : M42 396 ls (.int y :: .int x :: st) H Q = if x = y then M42 401 ls st H Q else M42 399 ls st H Q := w_icmp at_396 (i_eq x y) rfl
theorem m42_401 : M42 401 [l0, l1, l2, l3, l4, l5, l6, l7, l8, l9, l10, l11, l12, l13, l14, l15, .val (.int v), l17] st H Q = M42 403 [l0, l1, l2, l3, l4, l5, l6, l7, l8, l9, l10, l11, l12, l13, l14, l15, .val (.int v), l17] (.int v :: st) H Q := w_x at_401 rfl
theorem m42_403 : M42 403 ls (.int x :: st) H Q = if x = 0 then M42 439 ls st H Q else M42 406 ls st H Q := w_if at_403 (z_eq x) rfl
theorem m42_406 : M42 406 [l0, l1, l2, .val (.ref r), l4, l5, l6, l7, l8, l9, l10, l11, l12, l13, l14, l15, l16, l17] st H Q = M42 407 [l0, l1, l2, .val (.ref r), l4, l5, l6, l7, l8, l9, l10, l11, l12, l13, l14, l15, l16, l17] (.ref r :: st) H Q := w_x at_406 rfl
theorem cr42_33 : vR tables_1 dn y42 33 = some (false, y38, prog_1_method_6_code, 1, (some .int), 0, 108) := vR_of (cR_of (by decide +kernel) rc_38 dn_38 dn_42 (sig := ⟨[], some .int⟩) (by decide +kernel) (by decide +kernel) rfl rfl) (by decide +kernel) (by decide +kernel) (by decide +kernel)
theorem m42_407 : M42 407 ls [.ref b] (put b pre s A L B post) Q = M38 0 [.val (.ref b)] [] (put b pre s A L B post) (fun v H1 => M42 410 ls (v.toList ++ []) H1 Q) := w_virt (as := []) (rest := []) (a := b) at_407 cr42_33 put_o rfl rfl (Nat.le_of_ble_eq_true rfl) (by show 1 ≤ 1; omega) rfl
theorem m42_410 : M42 410 ls (.int x :: st) H Q = if x = 0 then M42 415 ls st H Q else M42 413 ls st H Q := w_if at_410 (z_eq x) rfl
theorem m42_415 : M42 415 [l0, l1, l2, .val (.ref r), l4, l5, l6, l7, l8, l9, l10, l11, l12, l13, l14, l15, l16, l17] st H Q = M42 416 [l0, l1, l2, .val (.ref r), l4, l5, l6, l7, l8, l9, l10, l11, l12, l13, l14, l15, l16, l17] (.ref r :: st) H Q := w_x at_415 rfl
theorem cr42_36 : vR tables_1 dn y42 36 = some (false, y39, prog_1_method_9_code, 1, (some .int), 0, 108) := vR_of (cR_of (by decide +kernel) rc_39 dn_39 dn_42 (sig := ⟨[], some .int⟩) (by decide +kernel) (by decide +kernel) rfl rfl) (by decide +kernel) (by decide +kernel) (by decide +kernel)
theorem m42_416 : M42 416 ls [.ref b] (put b pre s A L B post) Q = M39 0 [.val (.ref b)] [] (put b pre s A L B post) (fun v H1 => M42 419 ls (v.toList ++ []) H1 Q) := w_virt (as := []) (rest := []) (a := b) at_416 cr42_36 put_o rfl rfl (Nat.le_of_ble_eq_true rfl) (by show 1 ≤ 1; omega) rfl
theorem m42_419 : M42 419 ls (.int x :: st) H Q = if x = 0 then M42 424 ls st H Q else M42 422 ls st H Q := w_if at_419 (z_eq x) rfl
theorem m42_424 : M42 424 [l0, l1, l2, .val (.ref r), l4, l5, l6, l7, l8, l9, l10, l11, l12, l13, l14, l15, l16, l17] st H Q = M42 425 [l0, l1, l2, .val (.ref r), l4, l5, l6, l7, l8, l9, l10, l11, l12, l13, l14, l15, l16, l17] (.ref r :: st) H Q := w_x at_424 rfl
theorem m42_425 : M42 425 ls st H Q = M42 426 ls (.int 0 :: st) H Q := w_con at_425 rfl (by decide)
theorem cr42_39 : vR tables_1 dn y42 39 = some (false, y40, prog_1_method_10_code, 2, (some .int), 1, 94) := vR_of (cR_of (by decide +kernel) rc_40 dn_40 dn_42 (sig := ⟨[.int], some .int⟩) (by decide +kernel) (by decide +kernel) rfl rfl) (by decide +kernel) (by decide +kernel) (by decide +kernel)
theorem m42_426 (a0 : Int32) : M42 426 ls [.int a0, .ref b] (put b pre s A L B post) Q = M40 0 [.val (.ref b), .val (.int a0)] [] (put b pre s A L B post) (fun v H1 => M42 429 ls (v.toList ++ []) H1 Q) := w_virt (as := [.int a0]) (rest := []) (a := b) at_426 cr42_39 put_o rfl rfl (Nat.le_of_ble_eq_true rfl) (by show 2 ≤ 2; omega) rfl
theorem m42_429 : M42 429 ls st H Q = M42 430 ls (.int (-1) :: st) H Q := w_con at_429 rfl (by decide)
theorem m42_430 : M42 430 ls (.int y :: .int x :: st) H Q = if x = y then M42 433 ls st H Q else M42 437 ls st H Q := w_icmpN at_430 (i_ne x y) rfl
theorem m42_433 : M42 433 ls st H Q = M42 434 ls (.int 1 :: st) H Q := w_con at_433 rfl (by decide)
theorem m42_434 : M42 434 ls st H Q = M42 438 ls st H Q := w_x at_434 rfl
theorem m42_438 : M42 438 ls (.int z :: st) H Q = Q (some (.int (nar .boolean z))) H := w_iretN at_438 rfl (by simp)
theorem m42_439 : M42 439 [l0, l1, l2, .val (.ref r), l4, l5, l6, l7, l8, l9, l10, l11, l12, l13, l14, l15, l16, l17] st H Q = M42 440 [l0, l1, l2, .val (.ref r), l4, l5, l6, l7, l8, l9, l10, l11, l12, l13, l14, l15, l16, l17] (.ref r :: st) H Q := w_x at_439 rfl
theorem m42_440 : M42 440 ls [.ref b] (put b pre s A L B post) Q = M38 0 [.val (.ref b)] [] (put b pre s A L B post) (fun v H1 => M42 443 ls (v.toList ++ []) H1 Q) := w_virt (as := []) (rest := []) (a := b) at_440 cr42_33 put_o rfl rfl (Nat.le_of_ble_eq_true rfl) (by show 1 ≤ 1; omega) rfl
theorem m42_443 : M42 443 ls st H Q = M42 444 ls (.int 1 :: st) H Q := w_con at_443 rfl (by decide)
theorem m42_444 : M42 444 ls (.int y :: .int x :: st) H Q = if x = y then M42 449 ls st H Q else M42 447 ls st H Q := w_icmp at_444 (i_eq x y) rfl
theorem m42_449 : M42 449 [l0, l1, l2, .val (.ref r), l4, l5, l6, l7, l8, l9, l10, l11, l12, l13, l14, l15, l16, l17] st H Q = M42 450 [l0, l1, l2, .val (.ref r), l4, l5, l6, l7, l8, l9, l10, l11, l12, l13, l14, l15, l16, l17] (.ref r :: st) H Q := w_x at_449 rfl
theorem m42_450 : M42 450 ls [.ref b] (put b pre s A L B post) Q = M39 0 [.val (.ref b)] [] (put b pre s A L B post) (fun v H1 => M42 453 ls (v.toList ++ []) H1 Q) := w_virt (as := []) (rest := []) (a := b) at_450 cr42_36 put_o rfl rfl (Nat.le_of_ble_eq_true rfl) (by show 1 ≤ 1; omega) rfl
theorem m42_453 : M42 453 ls st H Q = M42 454 ls (.int 1 :: st) H Q := w_con at_453 rfl (by decide)
theorem m42_454 : M42 454 ls (.int y :: .int x :: st) H Q = if x = y then M42 459 ls st H Q else M42 457 ls st H Q := w_icmp at_454 (i_eq x y) rfl
theorem m42_459 : M42 459 [l0, l1, l2, .val (.ref r), l4, l5, l6, l7, l8, l9, l10, l11, l12, l13, l14, l15, l16, l17] st H Q = M42 460 [l0, l1, l2, .val (.ref r), l4, l5, l6, l7, l8, l9, l10, l11, l12, l13, l14, l15, l16, l17] (.ref r :: st) H Q := w_x at_459 rfl
theorem m42_460 : M42 460 ls st H Q = M42 461 ls (.int 0 :: st) H Q := w_con at_460 rfl (by decide)
theorem m42_461 (a0 : Int32) : M42 461 ls [.int a0, .ref b] (put b pre s A L B post) Q = M40 0 [.val (.ref b), .val (.int a0)] [] (put b pre s A L B post) (fun v H1 => M42 464 ls (v.toList ++ []) H1 Q) := w_virt (as := [.int a0]) (rest := []) (a := b) at_461 cr42_39 put_o rfl rfl (Nat.le_of_ble_eq_true rfl) (by show 2 ≤ 2; omega) rfl
theorem m42_464 : M42 464 ls st H Q = M42 465 ls (.int 1 :: st) H Q := w_con at_464 rfl (by decide)
theorem m42_465 : M42 465 ls (.int y :: .int x :: st) H Q = if x = y then M42 468 ls st H Q else M42 472 ls st H Q := w_icmpN at_465 (i_ne x y) rfl
theorem m42_468 : M42 468 ls st H Q = M42 469 ls (.int 1 :: st) H Q := w_con at_468 rfl (by decide)
theorem m42_469 : M42 469 ls st H Q = M42 473 ls st H Q := w_x at_469 rfl
theorem m42_473 : M42 473 ls (.int z :: st) H Q = Q (some (.int (nar .boolean z))) H := w_iretN at_473 rfl (by simp)
theorem m0_4a (hH : H.length = b) {vs : List Value} {r : AHeap} (hj : 0 < vs.length) : M0 4 (.val (.ref b) :: [l1, l2]) [] (H ++ (.object "MacroAssembler", vs) :: r) Q = M0 9 (.val (.ref b) :: [l1, l2]) [] (H ++ (.object "MacroAssembler", vs.set 0 (.int 1)) :: r) Q := w_iint (v := .int 1) rfl hH (Nat.zero_le _) (show decode kb0 4 = .ok (.aload_n 0, 1) from by decide +kernel) rfl (show decode kb0 5 = .ok (.iconst 1, 1) from by decide +kernel) (fun _ => rfl) (by decide) (show decode kb0 6 = .ok (.putfield 7, 3) from by decide +kernel) pf0_7 rfl hj
theorem m0_9a (hH : H.length = b) {vs : List Value} {r : AHeap} (hj : 1 < vs.length) : M0 9 (.val (.ref b) :: [l1, l2]) [] (H ++ (.object "MacroAssembler", vs) :: r) Q = M0 14 (.val (.ref b) :: [l1, l2]) [] (H ++ (.object "MacroAssembler", vs.set 1 (.int 2)) :: r) Q := w_iint (v := .int 2) rfl hH (Nat.zero_le _) (show decode kb0 9 = .ok (.aload_n 0, 1) from by decide +kernel) rfl (show decode kb0 10 = .ok (.iconst 2, 1) from by decide +kernel) (fun _ => rfl) (by decide) (show decode kb0 11 = .ok (.putfield 13, 3) from by decide +kernel) pf0_13 rfl hj
theorem m0_14a (hH : H.length = b) {vs : List Value} {r : AHeap} (hj : 2 < vs.length) : M0 14 (.val (.ref b) :: [l1, l2]) [] (H ++ (.object "MacroAssembler", vs) :: r) Q = M0 19 (.val (.ref b) :: [l1, l2]) [] (H ++ (.object "MacroAssembler", vs.set 2 (.int 1)) :: r) Q := w_iint (v := .int 1) rfl hH (Nat.zero_le _) (show decode kb0 14 = .ok (.aload_n 0, 1) from by decide +kernel) rfl (show decode kb0 15 = .ok (.iconst 1, 1) from by decide +kernel) (fun _ => rfl) (by decide) (show decode kb0 16 = .ok (.putfield 16, 3) from by decide +kernel) pf0_16 rfl hj
theorem m0_19a (hH : H.length = b) {vs : List Value} {r : AHeap} (hj : 3 < vs.length) : M0 19 (.val (.ref b) :: [l1, l2]) [] (H ++ (.object "MacroAssembler", vs) :: r) Q = M0 24 (.val (.ref b) :: [l1, l2]) [] (H ++ (.object "MacroAssembler", vs.set 3 (.int 2)) :: r) Q := w_iint (v := .int 2) rfl hH (Nat.zero_le _) (show decode kb0 19 = .ok (.aload_n 0, 1) from by decide +kernel) rfl (show decode kb0 20 = .ok (.iconst 2, 1) from by decide +kernel) (fun _ => rfl) (by decide) (show decode kb0 21 = .ok (.putfield 19, 3) from by decide +kernel) pf0_19 rfl hj
theorem m0_24a (hH : H.length = b) {vs : List Value} {r : AHeap} (hj : 4 < vs.length) : M0 24 (.val (.ref b) :: [l1, l2]) [] (H ++ (.object "MacroAssembler", vs) :: r) Q = M0 29 (.val (.ref b) :: [l1, l2]) [] (H ++ (.object "MacroAssembler", vs.set 4 (.int 3)) :: r) Q := w_iint (v := .int 3) rfl hH (Nat.zero_le _) (show decode kb0 24 = .ok (.aload_n 0, 1) from by decide +kernel) rfl (show decode kb0 25 = .ok (.iconst 3, 1) from by decide +kernel) (fun _ => rfl) (by decide) (show decode kb0 26 = .ok (.putfield 22, 3) from by decide +kernel) pf0_22 rfl hj
theorem m0_29a (hH : H.length = b) {vs : List Value} {r : AHeap} (hj : 5 < vs.length) : M0 29 (.val (.ref b) :: [l1, l2]) [] (H ++ (.object "MacroAssembler", vs) :: r) Q = M0 34 (.val (.ref b) :: [l1, l2]) [] (H ++ (.object "MacroAssembler", vs.set 5 (.int 0)) :: r) Q := w_iint (v := .int 0) rfl hH (Nat.zero_le _) (show decode kb0 29 = .ok (.aload_n 0, 1) from by decide +kernel) rfl (show decode kb0 30 = .ok (.iconst 0, 1) from by decide +kernel) (fun _ => rfl) (by decide) (show decode kb0 31 = .ok (.putfield 25, 3) from by decide +kernel) pf0_25 rfl hj
theorem m0_34a (hH : H.length = b) {vs : List Value} {r : AHeap} (hj : 6 < vs.length) : M0 34 (.val (.ref b) :: [l1, l2]) [] (H ++ (.object "MacroAssembler", vs) :: r) Q = M0 39 (.val (.ref b) :: [l1, l2]) [] (H ++ (.object "MacroAssembler", vs.set 6 (.int 1)) :: r) Q := w_iint (v := .int 1) rfl hH (Nat.zero_le _) (show decode kb0 34 = .ok (.aload_n 0, 1) from by decide +kernel) rfl (show decode kb0 35 = .ok (.iconst 1, 1) from by decide +kernel) (fun _ => rfl) (by decide) (show decode kb0 36 = .ok (.putfield 28, 3) from by decide +kernel) pf0_28 rfl hj
theorem m0_39a (hH : H.length = b) {vs : List Value} {r : AHeap} (hj : 7 < vs.length) : M0 39 (.val (.ref b) :: [l1, l2]) [] (H ++ (.object "MacroAssembler", vs) :: r) Q = M0 44 (.val (.ref b) :: [l1, l2]) [] (H ++ (.object "MacroAssembler", vs.set 7 (.int 2)) :: r) Q := w_iint (v := .int 2) rfl hH (Nat.zero_le _) (show decode kb0 39 = .ok (.aload_n 0, 1) from by decide +kernel) rfl (show decode kb0 40 = .ok (.iconst 2, 1) from by decide +kernel) (fun _ => rfl) (by decide) (show decode kb0 41 = .ok (.putfield 31, 3) from by decide +kernel) pf0_31 rfl hj
theorem m0_44a (hH : H.length = b) {vs : List Value} {r : AHeap} (hj : 8 < vs.length) : M0 44 (.val (.ref b) :: [l1, l2]) [] (H ++ (.object "MacroAssembler", vs) :: r) Q = M0 49 (.val (.ref b) :: [l1, l2]) [] (H ++ (.object "MacroAssembler", vs.set 8 (.int 0)) :: r) Q := w_iint (v := .int 0) rfl hH (Nat.zero_le _) (show decode kb0 44 = .ok (.aload_n 0, 1) from by decide +kernel) rfl (show decode kb0 45 = .ok (.iconst 0, 1) from by decide +kernel) (fun _ => rfl) (by decide) (show decode kb0 46 = .ok (.putfield 34, 3) from by decide +kernel) pf0_34 rfl hj
theorem m0_49a (hH : H.length = b) {vs : List Value} {r : AHeap} (hj : 9 < vs.length) : M0 49 (.val (.ref b) :: [l1, l2]) [] (H ++ (.object "MacroAssembler", vs) :: r) Q = M0 54 (.val (.ref b) :: [l1, l2]) [] (H ++ (.object "MacroAssembler", vs.set 9 (.int 1)) :: r) Q := w_iint (v := .int 1) rfl hH (Nat.zero_le _) (show decode kb0 49 = .ok (.aload_n 0, 1) from by decide +kernel) rfl (show decode kb0 50 = .ok (.iconst 1, 1) from by decide +kernel) (fun _ => rfl) (by decide) (show decode kb0 51 = .ok (.putfield 37, 3) from by decide +kernel) pf0_37 rfl hj
theorem m0_54a (hH : H.length = b) {vs : List Value} {r : AHeap} (hj : 10 < vs.length) : M0 54 (.val (.ref b) :: [l1, l2]) [] (H ++ (.object "MacroAssembler", vs) :: r) Q = M0 59 (.val (.ref b) :: [l1, l2]) [] (H ++ (.object "MacroAssembler", vs.set 10 (.int 2)) :: r) Q := w_iint (v := .int 2) rfl hH (Nat.zero_le _) (show decode kb0 54 = .ok (.aload_n 0, 1) from by decide +kernel) rfl (show decode kb0 55 = .ok (.iconst 2, 1) from by decide +kernel) (fun _ => rfl) (by decide) (show decode kb0 56 = .ok (.putfield 40, 3) from by decide +kernel) pf0_40 rfl hj
theorem m0_59a (hH : H.length = b) {vs : List Value} {r : AHeap} (hj : 11 < vs.length) : M0 59 (.val (.ref b) :: [l1, l2]) [] (H ++ (.object "MacroAssembler", vs) :: r) Q = M0 65 (.val (.ref b) :: [l1, l2]) [] (H ++ (.object "MacroAssembler", vs.set 11 (.int 10)) :: r) Q := w_iint (v := .int 10) rfl hH (Nat.zero_le _) (show decode kb0 59 = .ok (.aload_n 0, 1) from by decide +kernel) rfl (show decode kb0 60 = .ok (.bipush 10, 2) from by decide +kernel) (fun _ => rfl) (by decide) (show decode kb0 62 = .ok (.putfield 43, 3) from by decide +kernel) pf0_43 rfl hj
theorem m0_65a (hH : H.length = b) {vs : List Value} {r : AHeap} (hj : 12 < vs.length) : M0 65 (.val (.ref b) :: [l1, l2]) [] (H ++ (.object "MacroAssembler", vs) :: r) Q = M0 71 (.val (.ref b) :: [l1, l2]) [] (H ++ (.object "MacroAssembler", vs.set 12 (.int 11)) :: r) Q := w_iint (v := .int 11) rfl hH (Nat.zero_le _) (show decode kb0 65 = .ok (.aload_n 0, 1) from by decide +kernel) rfl (show decode kb0 66 = .ok (.bipush 11, 2) from by decide +kernel) (fun _ => rfl) (by decide) (show decode kb0 68 = .ok (.putfield 46, 3) from by decide +kernel) pf0_46 rfl hj
theorem m0_71a (hH : H.length = b) {vs : List Value} {r : AHeap} (hj : 13 < vs.length) : M0 71 (.val (.ref b) :: [l1, l2]) [] (H ++ (.object "MacroAssembler", vs) :: r) Q = M0 77 (.val (.ref b) :: [l1, l2]) [] (H ++ (.object "MacroAssembler", vs.set 13 (.int 12)) :: r) Q := w_iint (v := .int 12) rfl hH (Nat.zero_le _) (show decode kb0 71 = .ok (.aload_n 0, 1) from by decide +kernel) rfl (show decode kb0 72 = .ok (.bipush 12, 2) from by decide +kernel) (fun _ => rfl) (by decide) (show decode kb0 74 = .ok (.putfield 49, 3) from by decide +kernel) pf0_49 rfl hj
theorem m0_77a (hH : H.length = b) {vs : List Value} {r : AHeap} (hj : 14 < vs.length) : M0 77 (.val (.ref b) :: [l1, l2]) [] (H ++ (.object "MacroAssembler", vs) :: r) Q = M0 83 (.val (.ref b) :: [l1, l2]) [] (H ++ (.object "MacroAssembler", vs.set 14 (.int 13)) :: r) Q := w_iint (v := .int 13) rfl hH (Nat.zero_le _) (show decode kb0 77 = .ok (.aload_n 0, 1) from by decide +kernel) rfl (show decode kb0 78 = .ok (.bipush 13, 2) from by decide +kernel) (fun _ => rfl) (by decide) (show decode kb0 80 = .ok (.putfield 52, 3) from by decide +kernel) pf0_52 rfl hj
theorem m0_83a (hH : H.length = b) {vs : List Value} {r : AHeap} (hj : 15 < vs.length) : M0 83 (.val (.ref b) :: [l1, l2]) [] (H ++ (.object "MacroAssembler", vs) :: r) Q = M0 89 (.val (.ref b) :: [l1, l2]) [] (H ++ (.object "MacroAssembler", vs.set 15 (.int 14)) :: r) Q := w_iint (v := .int 14) rfl hH (Nat.zero_le _) (show decode kb0 83 = .ok (.aload_n 0, 1) from by decide +kernel) rfl (show decode kb0 84 = .ok (.bipush 14, 2) from by decide +kernel) (fun _ => rfl) (by decide) (show decode kb0 86 = .ok (.putfield 55, 3) from by decide +kernel) pf0_55 rfl hj
theorem m0_89a (hH : H.length = b) {vs : List Value} {r : AHeap} (hj : 16 < vs.length) : M0 89 (.val (.ref b) :: [l1, l2]) [] (H ++ (.object "MacroAssembler", vs) :: r) Q = M0 95 (.val (.ref b) :: [l1, l2]) [] (H ++ (.object "MacroAssembler", vs.set 16 (.int 15)) :: r) Q := w_iint (v := .int 15) rfl hH (Nat.zero_le _) (show decode kb0 89 = .ok (.aload_n 0, 1) from by decide +kernel) rfl (show decode kb0 90 = .ok (.bipush 15, 2) from by decide +kernel) (fun _ => rfl) (by decide) (show decode kb0 92 = .ok (.putfield 58, 3) from by decide +kernel) pf0_58 rfl hj
theorem m0_95a (hH : H.length = b) {vs : List Value} {r : AHeap} (hj : 17 < vs.length) : M0 95 (.val (.ref b) :: [l1, l2]) [] (H ++ (.object "MacroAssembler", vs) :: r) Q = M0 101 (.val (.ref b) :: [l1, l2]) [] (H ++ (.object "MacroAssembler", vs.set 17 (.int 16)) :: r) Q := w_iint (v := .int 16) rfl hH (Nat.zero_le _) (show decode kb0 95 = .ok (.aload_n 0, 1) from by decide +kernel) rfl (show decode kb0 96 = .ok (.bipush 16, 2) from by decide +kernel) (fun _ => rfl) (by decide) (show decode kb0 98 = .ok (.putfield 61, 3) from by decide +kernel) pf0_61 rfl hj
theorem m0_101a (hH : H.length = b) {vs : List Value} {r : AHeap} (hj : 18 < vs.length) : M0 101 (.val (.ref b) :: [l1, l2]) [] (H ++ (.object "MacroAssembler", vs) :: r) Q = M0 107 (.val (.ref b) :: [l1, l2]) [] (H ++ (.object "MacroAssembler", vs.set 18 (.int 17)) :: r) Q := w_iint (v := .int 17) rfl hH (Nat.zero_le _) (show decode kb0 101 = .ok (.aload_n 0, 1) from by decide +kernel) rfl (show decode kb0 102 = .ok (.bipush 17, 2) from by decide +kernel) (fun _ => rfl) (by decide) (show decode kb0 104 = .ok (.putfield 64, 3) from by decide +kernel) pf0_64 rfl hj
theorem m0_107a (hH : H.length = b) {vs : List Value} {r : AHeap} (hj : 19 < vs.length) : M0 107 (.val (.ref b) :: [l1, l2]) [] (H ++ (.object "MacroAssembler", vs) :: r) Q = M0 113 (.val (.ref b) :: [l1, l2]) [] (H ++ (.object "MacroAssembler", vs.set 19 (.int 18)) :: r) Q := w_iint (v := .int 18) rfl hH (Nat.zero_le _) (show decode kb0 107 = .ok (.aload_n 0, 1) from by decide +kernel) rfl (show decode kb0 108 = .ok (.bipush 18, 2) from by decide +kernel) (fun _ => rfl) (by decide) (show decode kb0 110 = .ok (.putfield 67, 3) from by decide +kernel) pf0_67 rfl hj
theorem m0_113a (hH : H.length = b) {vs : List Value} {r : AHeap} (hj : 20 < vs.length) : M0 113 (.val (.ref b) :: [l1, l2]) [] (H ++ (.object "MacroAssembler", vs) :: r) Q = M0 119 (.val (.ref b) :: [l1, l2]) [] (H ++ (.object "MacroAssembler", vs.set 20 (.int 81)) :: r) Q := w_iint (v := .int 81) rfl hH (Nat.zero_le _) (show decode kb0 113 = .ok (.aload_n 0, 1) from by decide +kernel) rfl (show decode kb0 114 = .ok (.bipush 81, 2) from by decide +kernel) (fun _ => rfl) (by decide) (show decode kb0 116 = .ok (.putfield 70, 3) from by decide +kernel) pf0_70 rfl hj
theorem pf0_73 : pfR tables_1 y0.cls y0.name 73 = some ("MacroAssembler", 21, .array .char) := by decide +kernel
theorem m0_119a (hH : H.length = b) {vs : List Value} {r : AHeap} (hj : 21 < vs.length) : M0 119 (.val (.ref b) :: [l1, l2]) [] (H ++ (.object "MacroAssembler", vs) :: r) Q = M0 128 (.val (.ref b) :: [l1, l2]) [] (H ++ (.object "MacroAssembler", vs.set 21 (.ref (b + (r.length + 1)))) :: (r ++ [(.array .char, List.replicate 640 (.int 0))])) Q := w_iarr (n := 640) rfl hH (Nat.zero_le _) (show decode kb0 119 = .ok (.aload_n 0, 1) from by decide +kernel) rfl (show decode kb0 120 = .ok (.sipush 640, 3) from by decide +kernel) (fun _ => rfl) (by decide) (show decode kb0 123 = .ok (.newarray .char, 2) from by decide +kernel) rfl (by decide +kernel) (by decide) (by decide) rfl (show decode kb0 125 = .ok (.putfield 73, 3) from by decide +kernel) pf0_73 hj
theorem pf0_77 : pfR tables_1 y0.cls y0.name 77 = some ("MacroAssembler", 22, .array .int) := by decide +kernel
theorem m0_128a (hH : H.length = b) {vs : List Value} {r : AHeap} (hj : 22 < vs.length) : M0 128 (.val (.ref b) :: [l1, l2]) [] (H ++ (.object "MacroAssembler", vs) :: r) Q = M0 137 (.val (.ref b) :: [l1, l2]) [] (H ++ (.object "MacroAssembler", vs.set 22 (.ref (b + (r.length + 1)))) :: (r ++ [(.array .int, List.replicate 640 (.int 0))])) Q := w_iarr (n := 640) rfl hH (Nat.zero_le _) (show decode kb0 128 = .ok (.aload_n 0, 1) from by decide +kernel) rfl (show decode kb0 129 = .ok (.sipush 640, 3) from by decide +kernel) (fun _ => rfl) (by decide) (show decode kb0 132 = .ok (.newarray .int, 2) from by decide +kernel) rfl (by decide +kernel) (by decide) (by decide) rfl (show decode kb0 134 = .ok (.putfield 77, 3) from by decide +kernel) pf0_77 hj
theorem pf0_81 : pfR tables_1 y0.cls y0.name 81 = some ("MacroAssembler", 23, .array .int) := by decide +kernel
theorem m0_137a (hH : H.length = b) {vs : List Value} {r : AHeap} (hj : 23 < vs.length) : M0 137 (.val (.ref b) :: [l1, l2]) [] (H ++ (.object "MacroAssembler", vs) :: r) Q = M0 146 (.val (.ref b) :: [l1, l2]) [] (H ++ (.object "MacroAssembler", vs.set 23 (.ref (b + (r.length + 1)))) :: (r ++ [(.array .int, List.replicate 640 (.int 0))])) Q := w_iarr (n := 640) rfl hH (Nat.zero_le _) (show decode kb0 137 = .ok (.aload_n 0, 1) from by decide +kernel) rfl (show decode kb0 138 = .ok (.sipush 640, 3) from by decide +kernel) (fun _ => rfl) (by decide) (show decode kb0 141 = .ok (.newarray .int, 2) from by decide +kernel) rfl (by decide +kernel) (by decide) (by decide) rfl (show decode kb0 143 = .ok (.putfield 81, 3) from by decide +kernel) pf0_81 hj
theorem pf0_84 : pfR tables_1 y0.cls y0.name 84 = some ("MacroAssembler", 24, .array .int) := by decide +kernel
theorem m0_146a (hH : H.length = b) {vs : List Value} {r : AHeap} (hj : 24 < vs.length) : M0 146 (.val (.ref b) :: [l1, l2]) [] (H ++ (.object "MacroAssembler", vs) :: r) Q = M0 154 (.val (.ref b) :: [l1, l2]) [] (H ++ (.object "MacroAssembler", vs.set 24 (.ref (b + (r.length + 1)))) :: (r ++ [(.array .int, List.replicate 32 (.int 0))])) Q := w_iarr (n := 32) rfl hH (Nat.zero_le _) (show decode kb0 146 = .ok (.aload_n 0, 1) from by decide +kernel) rfl (show decode kb0 147 = .ok (.bipush 32, 2) from by decide +kernel) (fun _ => rfl) (by decide) (show decode kb0 149 = .ok (.newarray .int, 2) from by decide +kernel) rfl (by decide +kernel) (by decide) (by decide) rfl (show decode kb0 151 = .ok (.putfield 84, 3) from by decide +kernel) pf0_84 hj
theorem pf0_87 : pfR tables_1 y0.cls y0.name 87 = some ("MacroAssembler", 25, .array .long) := by decide +kernel
theorem m0_154a (hH : H.length = b) {vs : List Value} {r : AHeap} (hj : 25 < vs.length) : M0 154 (.val (.ref b) :: [l1, l2]) [] (H ++ (.object "MacroAssembler", vs) :: r) Q = M0 162 (.val (.ref b) :: [l1, l2]) [] (H ++ (.object "MacroAssembler", vs.set 25 (.ref (b + (r.length + 1)))) :: (r ++ [(.array .long, List.replicate 16 (.long 0))])) Q := w_iarr (n := 16) rfl hH (Nat.zero_le _) (show decode kb0 154 = .ok (.aload_n 0, 1) from by decide +kernel) rfl (show decode kb0 155 = .ok (.bipush 16, 2) from by decide +kernel) (fun _ => rfl) (by decide) (show decode kb0 157 = .ok (.newarray .long, 2) from by decide +kernel) rfl (by decide +kernel) (by decide) (by decide) rfl (show decode kb0 159 = .ok (.putfield 87, 3) from by decide +kernel) pf0_87 hj
theorem pf0_91 : pfR tables_1 y0.cls y0.name 91 = some ("MacroAssembler", 26, .array .int) := by decide +kernel
theorem m0_162a (hH : H.length = b) {vs : List Value} {r : AHeap} (hj : 26 < vs.length) : M0 162 (.val (.ref b) :: [l1, l2]) [] (H ++ (.object "MacroAssembler", vs) :: r) Q = M0 170 (.val (.ref b) :: [l1, l2]) [] (H ++ (.object "MacroAssembler", vs.set 26 (.ref (b + (r.length + 1)))) :: (r ++ [(.array .int, List.replicate 16 (.int 0))])) Q := w_iarr (n := 16) rfl hH (Nat.zero_le _) (show decode kb0 162 = .ok (.aload_n 0, 1) from by decide +kernel) rfl (show decode kb0 163 = .ok (.bipush 16, 2) from by decide +kernel) (fun _ => rfl) (by decide) (show decode kb0 165 = .ok (.newarray .int, 2) from by decide +kernel) rfl (by decide +kernel) (by decide) (by decide) rfl (show decode kb0 167 = .ok (.putfield 91, 3) from by decide +kernel) pf0_91 hj
theorem pf0_94 : pfR tables_1 y0.cls y0.name 94 = some ("MacroAssembler", 27, .array .char) := by decide +kernel
theorem m0_170a (hH : H.length = b) {vs : List Value} {r : AHeap} (hj : 27 < vs.length) : M0 170 (.val (.ref b) :: [l1, l2]) [] (H ++ (.object "MacroAssembler", vs) :: r) Q = M0 179 (.val (.ref b) :: [l1, l2]) [] (H ++ (.object "MacroAssembler", vs.set 27 (.ref (b + (r.length + 1)))) :: (r ++ [(.array .char, List.replicate 624 (.int 0))])) Q := w_iarr (n := 624) rfl hH (Nat.zero_le _) (show decode kb0 170 = .ok (.aload_n 0, 1) from by decide +kernel) rfl (show decode kb0 171 = .ok (.sipush 624, 3) from by decide +kernel) (fun _ => rfl) (by decide) (show decode kb0 174 = .ok (.newarray .char, 2) from by decide +kernel) rfl (by decide +kernel) (by decide) (by decide) rfl (show decode kb0 176 = .ok (.putfield 94, 3) from by decide +kernel) pf0_94 hj
theorem pf0_97 : pfR tables_1 y0.cls y0.name 97 = some ("MacroAssembler", 28, .array .char) := by decide +kernel
theorem m0_179a (hH : H.length = b) {vs : List Value} {r : AHeap} (hj : 28 < vs.length) : M0 179 (.val (.ref b) :: [l1, l2]) [] (H ++ (.object "MacroAssembler", vs) :: r) Q = M0 187 (.val (.ref b) :: [l1, l2]) [] (H ++ (.object "MacroAssembler", vs.set 28 (.ref (b + (r.length + 1)))) :: (r ++ [(.array .char, List.replicate 12 (.int 0))])) Q := w_iarr (n := 12) rfl hH (Nat.zero_le _) (show decode kb0 179 = .ok (.aload_n 0, 1) from by decide +kernel) rfl (show decode kb0 180 = .ok (.bipush 12, 2) from by decide +kernel) (fun _ => rfl) (by decide) (show decode kb0 182 = .ok (.newarray .char, 2) from by decide +kernel) rfl (by decide +kernel) (by decide) (by decide) rfl (show decode kb0 184 = .ok (.putfield 97, 3) from by decide +kernel) pf0_97 hj
theorem pf0_100 : pfR tables_1 y0.cls y0.name 100 = some ("MacroAssembler", 29, .array .long) := by decide +kernel
theorem m0_187a (hH : H.length = b) {vs : List Value} {r : AHeap} (hj : 29 < vs.length) : M0 187 (.val (.ref b) :: [l1, l2]) [] (H ++ (.object "MacroAssembler", vs) :: r) Q = M0 195 (.val (.ref b) :: [l1, l2]) [] (H ++ (.object "MacroAssembler", vs.set 29 (.ref (b + (r.length + 1)))) :: (r ++ [(.array .long, List.replicate 8 (.long 0))])) Q := w_iarr (n := 8) rfl hH (Nat.zero_le _) (show decode kb0 187 = .ok (.aload_n 0, 1) from by decide +kernel) rfl (show decode kb0 188 = .ok (.bipush 8, 2) from by decide +kernel) (fun _ => rfl) (by decide) (show decode kb0 190 = .ok (.newarray .long, 2) from by decide +kernel) rfl (by decide +kernel) (by decide) (by decide) rfl (show decode kb0 192 = .ok (.putfield 100, 3) from by decide +kernel) pf0_100 hj
theorem pf0_103 : pfR tables_1 y0.cls y0.name 103 = some ("MacroAssembler", 30, .array .int) := by decide +kernel
theorem m0_195a (hH : H.length = b) {vs : List Value} {r : AHeap} (hj : 30 < vs.length) : M0 195 (.val (.ref b) :: [l1, l2]) [] (H ++ (.object "MacroAssembler", vs) :: r) Q = M0 203 (.val (.ref b) :: [l1, l2]) [] (H ++ (.object "MacroAssembler", vs.set 30 (.ref (b + (r.length + 1)))) :: (r ++ [(.array .int, List.replicate 8 (.int 0))])) Q := w_iarr (n := 8) rfl hH (Nat.zero_le _) (show decode kb0 195 = .ok (.aload_n 0, 1) from by decide +kernel) rfl (show decode kb0 196 = .ok (.bipush 8, 2) from by decide +kernel) (fun _ => rfl) (by decide) (show decode kb0 198 = .ok (.newarray .int, 2) from by decide +kernel) rfl (by decide +kernel) (by decide) (by decide) rfl (show decode kb0 200 = .ok (.putfield 103, 3) from by decide +kernel) pf0_103 hj
theorem pf0_106 : pfR tables_1 y0.cls y0.name 106 = some ("MacroAssembler", 31, .array .int) := by decide +kernel
theorem m0_203a (hH : H.length = b) {vs : List Value} {r : AHeap} (hj : 31 < vs.length) : M0 203 (.val (.ref b) :: [l1, l2]) [] (H ++ (.object "MacroAssembler", vs) :: r) Q = M0 211 (.val (.ref b) :: [l1, l2]) [] (H ++ (.object "MacroAssembler", vs.set 31 (.ref (b + (r.length + 1)))) :: (r ++ [(.array .int, List.replicate 8 (.int 0))])) Q := w_iarr (n := 8) rfl hH (Nat.zero_le _) (show decode kb0 203 = .ok (.aload_n 0, 1) from by decide +kernel) rfl (show decode kb0 204 = .ok (.bipush 8, 2) from by decide +kernel) (fun _ => rfl) (by decide) (show decode kb0 206 = .ok (.newarray .int, 2) from by decide +kernel) rfl (by decide +kernel) (by decide) (by decide) rfl (show decode kb0 208 = .ok (.putfield 106, 3) from by decide +kernel) pf0_106 hj
theorem pf0_109 : pfR tables_1 y0.cls y0.name 109 = some ("MacroAssembler", 32, .array .int) := by decide +kernel
theorem m0_211a (hH : H.length = b) {vs : List Value} {r : AHeap} (hj : 32 < vs.length) : M0 211 (.val (.ref b) :: [l1, l2]) [] (H ++ (.object "MacroAssembler", vs) :: r) Q = M0 219 (.val (.ref b) :: [l1, l2]) [] (H ++ (.object "MacroAssembler", vs.set 32 (.ref (b + (r.length + 1)))) :: (r ++ [(.array .int, List.replicate 8 (.int 0))])) Q := w_iarr (n := 8) rfl hH (Nat.zero_le _) (show decode kb0 211 = .ok (.aload_n 0, 1) from by decide +kernel) rfl (show decode kb0 212 = .ok (.bipush 8, 2) from by decide +kernel) (fun _ => rfl) (by decide) (show decode kb0 214 = .ok (.newarray .int, 2) from by decide +kernel) rfl (by decide +kernel) (by decide) (by decide) rfl (show decode kb0 216 = .ok (.putfield 109, 3) from by decide +kernel) pf0_109 hj
theorem pf0_112 : pfR tables_1 y0.cls y0.name 112 = some ("MacroAssembler", 33, .array .boolean) := by decide +kernel
theorem m0_219a (hH : H.length = b) {vs : List Value} {r : AHeap} (hj : 33 < vs.length) : M0 219 (.val (.ref b) :: [l1, l2]) [] (H ++ (.object "MacroAssembler", vs) :: r) Q = M0 227 (.val (.ref b) :: [l1, l2]) [] (H ++ (.object "MacroAssembler", vs.set 33 (.ref (b + (r.length + 1)))) :: (r ++ [(.array .boolean, List.replicate 8 (.int 0))])) Q := w_iarr (n := 8) rfl hH (Nat.zero_le _) (show decode kb0 219 = .ok (.aload_n 0, 1) from by decide +kernel) rfl (show decode kb0 220 = .ok (.bipush 8, 2) from by decide +kernel) (fun _ => rfl) (by decide) (show decode kb0 222 = .ok (.newarray .boolean, 2) from by decide +kernel) rfl (by decide +kernel) (by decide) (by decide) rfl (show decode kb0 224 = .ok (.putfield 112, 3) from by decide +kernel) pf0_112 hj
theorem pf0_116 : pfR tables_1 y0.cls y0.name 116 = some ("MacroAssembler", 34, .array .int) := by decide +kernel
theorem m0_227a (hH : H.length = b) {vs : List Value} {r : AHeap} (hj : 34 < vs.length) : M0 227 (.val (.ref b) :: [l1, l2]) [] (H ++ (.object "MacroAssembler", vs) :: r) Q = M0 235 (.val (.ref b) :: [l1, l2]) [] (H ++ (.object "MacroAssembler", vs.set 34 (.ref (b + (r.length + 1)))) :: (r ++ [(.array .int, List.replicate 8 (.int 0))])) Q := w_iarr (n := 8) rfl hH (Nat.zero_le _) (show decode kb0 227 = .ok (.aload_n 0, 1) from by decide +kernel) rfl (show decode kb0 228 = .ok (.bipush 8, 2) from by decide +kernel) (fun _ => rfl) (by decide) (show decode kb0 230 = .ok (.newarray .int, 2) from by decide +kernel) rfl (by decide +kernel) (by decide) (by decide) rfl (show decode kb0 232 = .ok (.putfield 116, 3) from by decide +kernel) pf0_116 hj
theorem pf0_119 : pfR tables_1 y0.cls y0.name 119 = some ("MacroAssembler", 35, .array .int) := by decide +kernel
theorem m0_235a (hH : H.length = b) {vs : List Value} {r : AHeap} (hj : 35 < vs.length) : M0 235 (.val (.ref b) :: [l1, l2]) [] (H ++ (.object "MacroAssembler", vs) :: r) Q = M0 243 (.val (.ref b) :: [l1, l2]) [] (H ++ (.object "MacroAssembler", vs.set 35 (.ref (b + (r.length + 1)))) :: (r ++ [(.array .int, List.replicate 8 (.int 0))])) Q := w_iarr (n := 8) rfl hH (Nat.zero_le _) (show decode kb0 235 = .ok (.aload_n 0, 1) from by decide +kernel) rfl (show decode kb0 236 = .ok (.bipush 8, 2) from by decide +kernel) (fun _ => rfl) (by decide) (show decode kb0 238 = .ok (.newarray .int, 2) from by decide +kernel) rfl (by decide +kernel) (by decide) (by decide) rfl (show decode kb0 240 = .ok (.putfield 119, 3) from by decide +kernel) pf0_119 hj
theorem pf0_122 : pfR tables_1 y0.cls y0.name 122 = some ("MacroAssembler", 36, .array .int) := by decide +kernel
theorem m0_243a (hH : H.length = b) {vs : List Value} {r : AHeap} (hj : 36 < vs.length) : M0 243 (.val (.ref b) :: [l1, l2]) [] (H ++ (.object "MacroAssembler", vs) :: r) Q = M0 251 (.val (.ref b) :: [l1, l2]) [] (H ++ (.object "MacroAssembler", vs.set 36 (.ref (b + (r.length + 1)))) :: (r ++ [(.array .int, List.replicate 8 (.int 0))])) Q := w_iarr (n := 8) rfl hH (Nat.zero_le _) (show decode kb0 243 = .ok (.aload_n 0, 1) from by decide +kernel) rfl (show decode kb0 244 = .ok (.bipush 8, 2) from by decide +kernel) (fun _ => rfl) (by decide) (show decode kb0 246 = .ok (.newarray .int, 2) from by decide +kernel) rfl (by decide +kernel) (by decide) (by decide) rfl (show decode kb0 248 = .ok (.putfield 122, 3) from by decide +kernel) pf0_122 hj
theorem pf0_125 : pfR tables_1 y0.cls y0.name 125 = some ("MacroAssembler", 37, .array .int) := by decide +kernel
theorem m0_251a (hH : H.length = b) {vs : List Value} {r : AHeap} (hj : 37 < vs.length) : M0 251 (.val (.ref b) :: [l1, l2]) [] (H ++ (.object "MacroAssembler", vs) :: r) Q = M0 259 (.val (.ref b) :: [l1, l2]) [] (H ++ (.object "MacroAssembler", vs.set 37 (.ref (b + (r.length + 1)))) :: (r ++ [(.array .int, List.replicate 8 (.int 0))])) Q := w_iarr (n := 8) rfl hH (Nat.zero_le _) (show decode kb0 251 = .ok (.aload_n 0, 1) from by decide +kernel) rfl (show decode kb0 252 = .ok (.bipush 8, 2) from by decide +kernel) (fun _ => rfl) (by decide) (show decode kb0 254 = .ok (.newarray .int, 2) from by decide +kernel) rfl (by decide +kernel) (by decide) (by decide) rfl (show decode kb0 256 = .ok (.putfield 125, 3) from by decide +kernel) pf0_125 hj
theorem pf0_128 : pfR tables_1 y0.cls y0.name 128 = some ("MacroAssembler", 38, .array .int) := by decide +kernel
theorem m0_259a (hH : H.length = b) {vs : List Value} {r : AHeap} (hj : 38 < vs.length) : M0 259 (.val (.ref b) :: [l1, l2]) [] (H ++ (.object "MacroAssembler", vs) :: r) Q = M0 267 (.val (.ref b) :: [l1, l2]) [] (H ++ (.object "MacroAssembler", vs.set 38 (.ref (b + (r.length + 1)))) :: (r ++ [(.array .int, List.replicate 8 (.int 0))])) Q := w_iarr (n := 8) rfl hH (Nat.zero_le _) (show decode kb0 259 = .ok (.aload_n 0, 1) from by decide +kernel) rfl (show decode kb0 260 = .ok (.bipush 8, 2) from by decide +kernel) (fun _ => rfl) (by decide) (show decode kb0 262 = .ok (.newarray .int, 2) from by decide +kernel) rfl (by decide +kernel) (by decide) (by decide) rfl (show decode kb0 264 = .ok (.putfield 128, 3) from by decide +kernel) pf0_128 hj
theorem pf0_131 : pfR tables_1 y0.cls y0.name 131 = some ("MacroAssembler", 39, .array .int) := by decide +kernel
theorem m0_267a (hH : H.length = b) {vs : List Value} {r : AHeap} (hj : 39 < vs.length) : M0 267 (.val (.ref b) :: [l1, l2]) [] (H ++ (.object "MacroAssembler", vs) :: r) Q = M0 275 (.val (.ref b) :: [l1, l2]) [] (H ++ (.object "MacroAssembler", vs.set 39 (.ref (b + (r.length + 1)))) :: (r ++ [(.array .int, List.replicate 8 (.int 0))])) Q := w_iarr (n := 8) rfl hH (Nat.zero_le _) (show decode kb0 267 = .ok (.aload_n 0, 1) from by decide +kernel) rfl (show decode kb0 268 = .ok (.bipush 8, 2) from by decide +kernel) (fun _ => rfl) (by decide) (show decode kb0 270 = .ok (.newarray .int, 2) from by decide +kernel) rfl (by decide +kernel) (by decide) (by decide) rfl (show decode kb0 272 = .ok (.putfield 131, 3) from by decide +kernel) pf0_131 hj
theorem pf0_134 : pfR tables_1 y0.cls y0.name 134 = some ("MacroAssembler", 40, .array .int) := by decide +kernel
theorem m0_275a (hH : H.length = b) {vs : List Value} {r : AHeap} (hj : 40 < vs.length) : M0 275 (.val (.ref b) :: [l1, l2]) [] (H ++ (.object "MacroAssembler", vs) :: r) Q = M0 283 (.val (.ref b) :: [l1, l2]) [] (H ++ (.object "MacroAssembler", vs.set 40 (.ref (b + (r.length + 1)))) :: (r ++ [(.array .int, List.replicate 32 (.int 0))])) Q := w_iarr (n := 32) rfl hH (Nat.zero_le _) (show decode kb0 275 = .ok (.aload_n 0, 1) from by decide +kernel) rfl (show decode kb0 276 = .ok (.bipush 32, 2) from by decide +kernel) (fun _ => rfl) (by decide) (show decode kb0 278 = .ok (.newarray .int, 2) from by decide +kernel) rfl (by decide +kernel) (by decide) (by decide) rfl (show decode kb0 280 = .ok (.putfield 134, 3) from by decide +kernel) pf0_134 hj
theorem pf0_137 : pfR tables_1 y0.cls y0.name 137 = some ("MacroAssembler", 41, .array .char) := by decide +kernel
theorem m0_283a (hH : H.length = b) {vs : List Value} {r : AHeap} (hj : 41 < vs.length) : M0 283 (.val (.ref b) :: [l1, l2]) [] (H ++ (.object "MacroAssembler", vs) :: r) Q = M0 292 (.val (.ref b) :: [l1, l2]) [] (H ++ (.object "MacroAssembler", vs.set 41 (.ref (b + (r.length + 1)))) :: (r ++ [(.array .char, List.replicate 2592 (.int 0))])) Q := w_iarr (n := 2592) rfl hH (Nat.zero_le _) (show decode kb0 283 = .ok (.aload_n 0, 1) from by decide +kernel) rfl (show decode kb0 284 = .ok (.sipush 2592, 3) from by decide +kernel) (fun _ => rfl) (by decide) (show decode kb0 287 = .ok (.newarray .char, 2) from by decide +kernel) rfl (by decide +kernel) (by decide) (by decide) rfl (show decode kb0 289 = .ok (.putfield 137, 3) from by decide +kernel) pf0_137 hj
theorem pf0_140 : pfR tables_1 y0.cls y0.name 140 = some ("MacroAssembler", 42, .array .char) := by decide +kernel
theorem m0_292a (hH : H.length = b) {vs : List Value} {r : AHeap} (hj : 42 < vs.length) : M0 292 (.val (.ref b) :: [l1, l2]) [] (H ++ (.object "MacroAssembler", vs) :: r) Q = M0 301 (.val (.ref b) :: [l1, l2]) [] (H ++ (.object "MacroAssembler", vs.set 42 (.ref (b + (r.length + 1)))) :: (r ++ [(.array .char, List.replicate 640 (.int 0))])) Q := w_iarr (n := 640) rfl hH (Nat.zero_le _) (show decode kb0 292 = .ok (.aload_n 0, 1) from by decide +kernel) rfl (show decode kb0 293 = .ok (.sipush 640, 3) from by decide +kernel) (fun _ => rfl) (by decide) (show decode kb0 296 = .ok (.newarray .char, 2) from by decide +kernel) rfl (by decide +kernel) (by decide) (by decide) rfl (show decode kb0 298 = .ok (.putfield 140, 3) from by decide +kernel) pf0_140 hj
theorem pf0_143 : pfR tables_1 y0.cls y0.name 143 = some ("MacroAssembler", 43, .array .int) := by decide +kernel
theorem m0_301a (hH : H.length = b) {vs : List Value} {r : AHeap} (hj : 43 < vs.length) : M0 301 (.val (.ref b) :: [l1, l2]) [] (H ++ (.object "MacroAssembler", vs) :: r) Q = M0 310 (.val (.ref b) :: [l1, l2]) [] (H ++ (.object "MacroAssembler", vs.set 43 (.ref (b + (r.length + 1)))) :: (r ++ [(.array .int, List.replicate 640 (.int 0))])) Q := w_iarr (n := 640) rfl hH (Nat.zero_le _) (show decode kb0 301 = .ok (.aload_n 0, 1) from by decide +kernel) rfl (show decode kb0 302 = .ok (.sipush 640, 3) from by decide +kernel) (fun _ => rfl) (by decide) (show decode kb0 305 = .ok (.newarray .int, 2) from by decide +kernel) rfl (by decide +kernel) (by decide) (by decide) rfl (show decode kb0 307 = .ok (.putfield 143, 3) from by decide +kernel) pf0_143 hj
theorem pf0_146 : pfR tables_1 y0.cls y0.name 146 = some ("MacroAssembler", 44, .array .int) := by decide +kernel
theorem m0_310a (hH : H.length = b) {vs : List Value} {r : AHeap} (hj : 44 < vs.length) : M0 310 (.val (.ref b) :: [l1, l2]) [] (H ++ (.object "MacroAssembler", vs) :: r) Q = M0 319 (.val (.ref b) :: [l1, l2]) [] (H ++ (.object "MacroAssembler", vs.set 44 (.ref (b + (r.length + 1)))) :: (r ++ [(.array .int, List.replicate 640 (.int 0))])) Q := w_iarr (n := 640) rfl hH (Nat.zero_le _) (show decode kb0 310 = .ok (.aload_n 0, 1) from by decide +kernel) rfl (show decode kb0 311 = .ok (.sipush 640, 3) from by decide +kernel) (fun _ => rfl) (by decide) (show decode kb0 314 = .ok (.newarray .int, 2) from by decide +kernel) rfl (by decide +kernel) (by decide) (by decide) rfl (show decode kb0 316 = .ok (.putfield 146, 3) from by decide +kernel) pf0_146 hj
theorem pf0_149 : pfR tables_1 y0.cls y0.name 149 = some ("MacroAssembler", 45, .array .long) := by decide +kernel
theorem m0_319a (hH : H.length = b) {vs : List Value} {r : AHeap} (hj : 45 < vs.length) : M0 319 (.val (.ref b) :: [l1, l2]) [] (H ++ (.object "MacroAssembler", vs) :: r) Q = M0 328 (.val (.ref b) :: [l1, l2]) [] (H ++ (.object "MacroAssembler", vs.set 45 (.ref (b + (r.length + 1)))) :: (r ++ [(.array .long, List.replicate 640 (.long 0))])) Q := w_iarr (n := 640) rfl hH (Nat.zero_le _) (show decode kb0 319 = .ok (.aload_n 0, 1) from by decide +kernel) rfl (show decode kb0 320 = .ok (.sipush 640, 3) from by decide +kernel) (fun _ => rfl) (by decide) (show decode kb0 323 = .ok (.newarray .long, 2) from by decide +kernel) rfl (by decide +kernel) (by decide) (by decide) rfl (show decode kb0 325 = .ok (.putfield 149, 3) from by decide +kernel) pf0_149 hj
theorem pf0_152 : pfR tables_1 y0.cls y0.name 152 = some ("MacroAssembler", 46, .array .long) := by decide +kernel
theorem m0_328a (hH : H.length = b) {vs : List Value} {r : AHeap} (hj : 46 < vs.length) : M0 328 (.val (.ref b) :: [l1, l2]) [] (H ++ (.object "MacroAssembler", vs) :: r) Q = M0 336 (.val (.ref b) :: [l1, l2]) [] (H ++ (.object "MacroAssembler", vs.set 46 (.ref (b + (r.length + 1)))) :: (r ++ [(.array .long, List.replicate 16 (.long 0))])) Q := w_iarr (n := 16) rfl hH (Nat.zero_le _) (show decode kb0 328 = .ok (.aload_n 0, 1) from by decide +kernel) rfl (show decode kb0 329 = .ok (.bipush 16, 2) from by decide +kernel) (fun _ => rfl) (by decide) (show decode kb0 331 = .ok (.newarray .long, 2) from by decide +kernel) rfl (by decide +kernel) (by decide) (by decide) rfl (show decode kb0 333 = .ok (.putfield 152, 3) from by decide +kernel) pf0_152 hj
theorem pf0_155 : pfR tables_1 y0.cls y0.name 155 = some ("MacroAssembler", 47, .array .int) := by decide +kernel
theorem m0_336a (hH : H.length = b) {vs : List Value} {r : AHeap} (hj : 47 < vs.length) : M0 336 (.val (.ref b) :: [l1, l2]) [] (H ++ (.object "MacroAssembler", vs) :: r) Q = M0 344 (.val (.ref b) :: [l1, l2]) [] (H ++ (.object "MacroAssembler", vs.set 47 (.ref (b + (r.length + 1)))) :: (r ++ [(.array .int, List.replicate 16 (.int 0))])) Q := w_iarr (n := 16) rfl hH (Nat.zero_le _) (show decode kb0 336 = .ok (.aload_n 0, 1) from by decide +kernel) rfl (show decode kb0 337 = .ok (.bipush 16, 2) from by decide +kernel) (fun _ => rfl) (by decide) (show decode kb0 339 = .ok (.newarray .int, 2) from by decide +kernel) rfl (by decide +kernel) (by decide) (by decide) rfl (show decode kb0 341 = .ok (.putfield 155, 3) from by decide +kernel) pf0_155 hj
theorem pf0_158 : pfR tables_1 y0.cls y0.name 158 = some ("MacroAssembler", 48, .array .int) := by decide +kernel
theorem m0_344a (hH : H.length = b) {vs : List Value} {r : AHeap} (hj : 48 < vs.length) : M0 344 (.val (.ref b) :: [l1, l2]) [] (H ++ (.object "MacroAssembler", vs) :: r) Q = M0 352 (.val (.ref b) :: [l1, l2]) [] (H ++ (.object "MacroAssembler", vs.set 48 (.ref (b + (r.length + 1)))) :: (r ++ [(.array .int, List.replicate 32 (.int 0))])) Q := w_iarr (n := 32) rfl hH (Nat.zero_le _) (show decode kb0 344 = .ok (.aload_n 0, 1) from by decide +kernel) rfl (show decode kb0 345 = .ok (.bipush 32, 2) from by decide +kernel) (fun _ => rfl) (by decide) (show decode kb0 347 = .ok (.newarray .int, 2) from by decide +kernel) rfl (by decide +kernel) (by decide) (by decide) rfl (show decode kb0 349 = .ok (.putfield 158, 3) from by decide +kernel) pf0_158 hj
theorem pf0_161 : pfR tables_1 y0.cls y0.name 161 = some ("MacroAssembler", 49, .array .int) := by decide +kernel
theorem m0_352a (hH : H.length = b) {vs : List Value} {r : AHeap} (hj : 49 < vs.length) : M0 352 (.val (.ref b) :: [l1, l2]) [] (H ++ (.object "MacroAssembler", vs) :: r) Q = M0 360 (.val (.ref b) :: [l1, l2]) [] (H ++ (.object "MacroAssembler", vs.set 49 (.ref (b + (r.length + 1)))) :: (r ++ [(.array .int, List.replicate 32 (.int 0))])) Q := w_iarr (n := 32) rfl hH (Nat.zero_le _) (show decode kb0 352 = .ok (.aload_n 0, 1) from by decide +kernel) rfl (show decode kb0 353 = .ok (.bipush 32, 2) from by decide +kernel) (fun _ => rfl) (by decide) (show decode kb0 355 = .ok (.newarray .int, 2) from by decide +kernel) rfl (by decide +kernel) (by decide) (by decide) rfl (show decode kb0 357 = .ok (.putfield 161, 3) from by decide +kernel) pf0_161 hj
theorem pf0_164 : pfR tables_1 y0.cls y0.name 164 = some ("MacroAssembler", 50, .array .int) := by decide +kernel
theorem m0_360a (hH : H.length = b) {vs : List Value} {r : AHeap} (hj : 50 < vs.length) : M0 360 (.val (.ref b) :: [l1, l2]) [] (H ++ (.object "MacroAssembler", vs) :: r) Q = M0 368 (.val (.ref b) :: [l1, l2]) [] (H ++ (.object "MacroAssembler", vs.set 50 (.ref (b + (r.length + 1)))) :: (r ++ [(.array .int, List.replicate 32 (.int 0))])) Q := w_iarr (n := 32) rfl hH (Nat.zero_le _) (show decode kb0 360 = .ok (.aload_n 0, 1) from by decide +kernel) rfl (show decode kb0 361 = .ok (.bipush 32, 2) from by decide +kernel) (fun _ => rfl) (by decide) (show decode kb0 363 = .ok (.newarray .int, 2) from by decide +kernel) rfl (by decide +kernel) (by decide) (by decide) rfl (show decode kb0 365 = .ok (.putfield 164, 3) from by decide +kernel) pf0_164 hj
theorem pf0_167 : pfR tables_1 y0.cls y0.name 167 = some ("MacroAssembler", 51, .array .int) := by decide +kernel
theorem m0_368a (hH : H.length = b) {vs : List Value} {r : AHeap} (hj : 51 < vs.length) : M0 368 (.val (.ref b) :: [l1, l2]) [] (H ++ (.object "MacroAssembler", vs) :: r) Q = M0 376 (.val (.ref b) :: [l1, l2]) [] (H ++ (.object "MacroAssembler", vs.set 51 (.ref (b + (r.length + 1)))) :: (r ++ [(.array .int, List.replicate 32 (.int 0))])) Q := w_iarr (n := 32) rfl hH (Nat.zero_le _) (show decode kb0 368 = .ok (.aload_n 0, 1) from by decide +kernel) rfl (show decode kb0 369 = .ok (.bipush 32, 2) from by decide +kernel) (fun _ => rfl) (by decide) (show decode kb0 371 = .ok (.newarray .int, 2) from by decide +kernel) rfl (by decide +kernel) (by decide) (by decide) rfl (show decode kb0 373 = .ok (.putfield 167, 3) from by decide +kernel) pf0_167 hj
theorem pf0_170 : pfR tables_1 y0.cls y0.name 170 = some ("MacroAssembler", 52, .array .boolean) := by decide +kernel
theorem m0_376a (hH : H.length = b) {vs : List Value} {r : AHeap} (hj : 52 < vs.length) : M0 376 (.val (.ref b) :: [l1, l2]) [] (H ++ (.object "MacroAssembler", vs) :: r) Q = M0 384 (.val (.ref b) :: [l1, l2]) [] (H ++ (.object "MacroAssembler", vs.set 52 (.ref (b + (r.length + 1)))) :: (r ++ [(.array .boolean, List.replicate 32 (.int 0))])) Q := w_iarr (n := 32) rfl hH (Nat.zero_le _) (show decode kb0 376 = .ok (.aload_n 0, 1) from by decide +kernel) rfl (show decode kb0 377 = .ok (.bipush 32, 2) from by decide +kernel) (fun _ => rfl) (by decide) (show decode kb0 379 = .ok (.newarray .boolean, 2) from by decide +kernel) rfl (by decide +kernel) (by decide) (by decide) rfl (show decode kb0 381 = .ok (.putfield 170, 3) from by decide +kernel) pf0_170 hj
theorem pf0_173 : pfR tables_1 y0.cls y0.name 173 = some ("MacroAssembler", 53, .array .long) := by decide +kernel
theorem m0_384a (hH : H.length = b) {vs : List Value} {r : AHeap} (hj : 53 < vs.length) : M0 384 (.val (.ref b) :: [l1, l2]) [] (H ++ (.object "MacroAssembler", vs) :: r) Q = M0 393 (.val (.ref b) :: [l1, l2]) [] (H ++ (.object "MacroAssembler", vs.set 53 (.ref (b + (r.length + 1)))) :: (r ++ [(.array .long, List.replicate 512 (.long 0))])) Q := w_iarr (n := 512) rfl hH (Nat.zero_le _) (show decode kb0 384 = .ok (.aload_n 0, 1) from by decide +kernel) rfl (show decode kb0 385 = .ok (.sipush 512, 3) from by decide +kernel) (fun _ => rfl) (by decide) (show decode kb0 388 = .ok (.newarray .long, 2) from by decide +kernel) rfl (by decide +kernel) (by decide) (by decide) rfl (show decode kb0 390 = .ok (.putfield 173, 3) from by decide +kernel) pf0_173 hj
theorem pf0_176 : pfR tables_1 y0.cls y0.name 176 = some ("MacroAssembler", 54, .array .int) := by decide +kernel
theorem m0_393a (hH : H.length = b) {vs : List Value} {r : AHeap} (hj : 54 < vs.length) : M0 393 (.val (.ref b) :: [l1, l2]) [] (H ++ (.object "MacroAssembler", vs) :: r) Q = M0 402 (.val (.ref b) :: [l1, l2]) [] (H ++ (.object "MacroAssembler", vs.set 54 (.ref (b + (r.length + 1)))) :: (r ++ [(.array .int, List.replicate 512 (.int 0))])) Q := w_iarr (n := 512) rfl hH (Nat.zero_le _) (show decode kb0 393 = .ok (.aload_n 0, 1) from by decide +kernel) rfl (show decode kb0 394 = .ok (.sipush 512, 3) from by decide +kernel) (fun _ => rfl) (by decide) (show decode kb0 397 = .ok (.newarray .int, 2) from by decide +kernel) rfl (by decide +kernel) (by decide) (by decide) rfl (show decode kb0 399 = .ok (.putfield 176, 3) from by decide +kernel) pf0_176 hj
def A0 : Nat → List Int32
  | 0 => List.replicate 640 0
  | 1 => List.replicate 640 0
  | 2 => List.replicate 640 0
  | 3 => List.replicate 32 0
  | 4 => List.replicate 16 0
  | 5 => List.replicate 624 0
  | 6 => List.replicate 12 0
  | 7 => List.replicate 8 0
  | 8 => List.replicate 8 0
  | 9 => List.replicate 8 0
  | 10 => List.replicate 8 0
  | 11 => List.replicate 8 0
  | 12 => List.replicate 8 0
  | 13 => List.replicate 8 0
  | 14 => List.replicate 8 0
  | 15 => List.replicate 8 0
  | 16 => List.replicate 8 0
  | 17 => List.replicate 32 0
  | 18 => List.replicate 2592 0
  | 19 => List.replicate 640 0
  | 20 => List.replicate 640 0
  | 21 => List.replicate 640 0
  | 22 => List.replicate 16 0
  | 23 => List.replicate 32 0
  | 24 => List.replicate 32 0
  | 25 => List.replicate 32 0
  | 26 => List.replicate 32 0
  | 27 => List.replicate 32 0
  | 28 => List.replicate 512 0
  | _ => []
def B0 : Nat → List Int64
  | 0 => List.replicate 16 0
  | 1 => List.replicate 8 0
  | 2 => List.replicate 640 0
  | 3 => List.replicate 16 0
  | 4 => List.replicate 512 0
  | _ => []
theorem A0l_0 : (A0 0).length = 640 := List.length_replicate
theorem A0g_0 (j : Int32) : getA (A0 0) j = 0 := getA_rep _ _
theorem A0l_1 : (A0 1).length = 640 := List.length_replicate
theorem A0g_1 (j : Int32) : getA (A0 1) j = 0 := getA_rep _ _
theorem A0l_2 : (A0 2).length = 640 := List.length_replicate
theorem A0g_2 (j : Int32) : getA (A0 2) j = 0 := getA_rep _ _
theorem A0l_3 : (A0 3).length = 32 := List.length_replicate
theorem A0g_3 (j : Int32) : getA (A0 3) j = 0 := getA_rep _ _
theorem A0l_4 : (A0 4).length = 16 := List.length_replicate
theorem A0g_4 (j : Int32) : getA (A0 4) j = 0 := getA_rep _ _
theorem A0l_5 : (A0 5).length = 624 := List.length_replicate
theorem A0g_5 (j : Int32) : getA (A0 5) j = 0 := getA_rep _ _
theorem A0l_6 : (A0 6).length = 12 := List.length_replicate
theorem A0g_6 (j : Int32) : getA (A0 6) j = 0 := getA_rep _ _
theorem A0l_7 : (A0 7).length = 8 := List.length_replicate
theorem A0g_7 (j : Int32) : getA (A0 7) j = 0 := getA_rep _ _
theorem A0l_8 : (A0 8).length = 8 := List.length_replicate
theorem A0g_8 (j : Int32) : getA (A0 8) j = 0 := getA_rep _ _
theorem A0l_9 : (A0 9).length = 8 := List.length_replicate
theorem A0g_9 (j : Int32) : getA (A0 9) j = 0 := getA_rep _ _
theorem A0l_10 : (A0 10).length = 8 := List.length_replicate
theorem A0g_10 (j : Int32) : getA (A0 10) j = 0 := getA_rep _ _
theorem A0l_11 : (A0 11).length = 8 := List.length_replicate
theorem A0g_11 (j : Int32) : getA (A0 11) j = 0 := getA_rep _ _
theorem A0l_12 : (A0 12).length = 8 := List.length_replicate
theorem A0g_12 (j : Int32) : getA (A0 12) j = 0 := getA_rep _ _
theorem A0l_13 : (A0 13).length = 8 := List.length_replicate
theorem A0g_13 (j : Int32) : getA (A0 13) j = 0 := getA_rep _ _
theorem A0l_14 : (A0 14).length = 8 := List.length_replicate
theorem A0g_14 (j : Int32) : getA (A0 14) j = 0 := getA_rep _ _
theorem A0l_15 : (A0 15).length = 8 := List.length_replicate
theorem A0g_15 (j : Int32) : getA (A0 15) j = 0 := getA_rep _ _
theorem A0l_16 : (A0 16).length = 8 := List.length_replicate
theorem A0g_16 (j : Int32) : getA (A0 16) j = 0 := getA_rep _ _
theorem A0l_17 : (A0 17).length = 32 := List.length_replicate
theorem A0g_17 (j : Int32) : getA (A0 17) j = 0 := getA_rep _ _
theorem A0l_18 : (A0 18).length = 2592 := List.length_replicate
theorem A0g_18 (j : Int32) : getA (A0 18) j = 0 := getA_rep _ _
theorem A0l_19 : (A0 19).length = 640 := List.length_replicate
theorem A0g_19 (j : Int32) : getA (A0 19) j = 0 := getA_rep _ _
theorem A0l_20 : (A0 20).length = 640 := List.length_replicate
theorem A0g_20 (j : Int32) : getA (A0 20) j = 0 := getA_rep _ _
theorem A0l_21 : (A0 21).length = 640 := List.length_replicate
theorem A0g_21 (j : Int32) : getA (A0 21) j = 0 := getA_rep _ _
theorem A0l_22 : (A0 22).length = 16 := List.length_replicate
theorem A0g_22 (j : Int32) : getA (A0 22) j = 0 := getA_rep _ _
theorem A0l_23 : (A0 23).length = 32 := List.length_replicate
theorem A0g_23 (j : Int32) : getA (A0 23) j = 0 := getA_rep _ _
theorem A0l_24 : (A0 24).length = 32 := List.length_replicate
theorem A0g_24 (j : Int32) : getA (A0 24) j = 0 := getA_rep _ _
theorem A0l_25 : (A0 25).length = 32 := List.length_replicate
theorem A0g_25 (j : Int32) : getA (A0 25) j = 0 := getA_rep _ _
theorem A0l_26 : (A0 26).length = 32 := List.length_replicate
theorem A0g_26 (j : Int32) : getA (A0 26) j = 0 := getA_rep _ _
theorem A0l_27 : (A0 27).length = 32 := List.length_replicate
theorem A0g_27 (j : Int32) : getA (A0 27) j = 0 := getA_rep _ _
theorem A0l_28 : (A0 28).length = 512 := List.length_replicate
theorem A0g_28 (j : Int32) : getA (A0 28) j = 0 := getA_rep _ _
theorem B0l_0 : (B0 0).length = 16 := List.length_replicate
theorem B0l_1 : (B0 1).length = 8 := List.length_replicate
theorem B0l_2 : (B0 2).length = 640 := List.length_replicate
theorem B0l_3 : (B0 3).length = 16 := List.length_replicate
theorem B0l_4 : (B0 4).length = 512 := List.length_replicate
def S0 : Nat → Int32
  | 0 => 1
  | 1 => 2
  | 2 => 1
  | 3 => 2
  | 4 => 3
  | 5 => 0
  | 6 => 1
  | 7 => 2
  | 8 => 0
  | 9 => 1
  | 10 => 2
  | 11 => 10
  | 12 => 11
  | 13 => 12
  | 14 => 13
  | 15 => 14
  | 16 => 15
  | 17 => 16
  | 18 => 17
  | 19 => 18
  | 20 => 81
  | _ => 0
theorem own_ctor0 (hb : pre.length = b) : M0 0 (.val (.ref b) :: [l1, l2]) [] (pre ++ [(.object "MacroAssembler", D0)]) Q = M0 402 (.val (.ref b) :: [l1, l2]) [] (put b pre S0 A0 (fun _ => 0) B0 []) Q := by
  rw [m0_0, m0_1, m0_4a hb (by (repeat rw [List.length_set]); exact Nat.le_of_ble_eq_true rfl), m0_9a hb (by (repeat rw [List.length_set]); exact Nat.le_of_ble_eq_true rfl), m0_14a hb (by (repeat rw [List.length_set]); exact Nat.le_of_ble_eq_true rfl), m0_19a hb (by (repeat rw [List.length_set]); exact Nat.le_of_ble_eq_true rfl), m0_24a hb (by (repeat rw [List.length_set]); exact Nat.le_of_ble_eq_true rfl), m0_29a hb (by (repeat rw [List.length_set]); exact Nat.le_of_ble_eq_true rfl), m0_34a hb (by (repeat rw [List.length_set]); exact Nat.le_of_ble_eq_true rfl), m0_39a hb (by (repeat rw [List.length_set]); exact Nat.le_of_ble_eq_true rfl), m0_44a hb (by (repeat rw [List.length_set]); exact Nat.le_of_ble_eq_true rfl), m0_49a hb (by (repeat rw [List.length_set]); exact Nat.le_of_ble_eq_true rfl), m0_54a hb (by (repeat rw [List.length_set]); exact Nat.le_of_ble_eq_true rfl), m0_59a hb (by (repeat rw [List.length_set]); exact Nat.le_of_ble_eq_true rfl), m0_65a hb (by (repeat rw [List.length_set]); exact Nat.le_of_ble_eq_true rfl), m0_71a hb (by (repeat rw [List.length_set]); exact Nat.le_of_ble_eq_true rfl), m0_77a hb (by (repeat rw [List.length_set]); exact Nat.le_of_ble_eq_true rfl), m0_83a hb (by (repeat rw [List.length_set]); exact Nat.le_of_ble_eq_true rfl), m0_89a hb (by (repeat rw [List.length_set]); exact Nat.le_of_ble_eq_true rfl), m0_95a hb (by (repeat rw [List.length_set]); exact Nat.le_of_ble_eq_true rfl), m0_101a hb (by (repeat rw [List.length_set]); exact Nat.le_of_ble_eq_true rfl), m0_107a hb (by (repeat rw [List.length_set]); exact Nat.le_of_ble_eq_true rfl), m0_113a hb (by (repeat rw [List.length_set]); exact Nat.le_of_ble_eq_true rfl), m0_119a hb (by (repeat rw [List.length_set]); exact Nat.le_of_ble_eq_true rfl), m0_128a hb (by (repeat rw [List.length_set]); exact Nat.le_of_ble_eq_true rfl), m0_137a hb (by (repeat rw [List.length_set]); exact Nat.le_of_ble_eq_true rfl), m0_146a hb (by (repeat rw [List.length_set]); exact Nat.le_of_ble_eq_true rfl), m0_154a hb (by (repeat rw [List.length_set]); exact Nat.le_of_ble_eq_true rfl), m0_162a hb (by (repeat rw [List.length_set]); exact Nat.le_of_ble_eq_true rfl), m0_170a hb (by (repeat rw [List.length_set]); exact Nat.le_of_ble_eq_true rfl), m0_179a hb (by (repeat rw [List.length_set]); exact Nat.le_of_ble_eq_true rfl), m0_187a hb (by (repeat rw [List.length_set]); exact Nat.le_of_ble_eq_true rfl), m0_195a hb (by (repeat rw [List.length_set]); exact Nat.le_of_ble_eq_true rfl), m0_203a hb (by (repeat rw [List.length_set]); exact Nat.le_of_ble_eq_true rfl), m0_211a hb (by (repeat rw [List.length_set]); exact Nat.le_of_ble_eq_true rfl), m0_219a hb (by (repeat rw [List.length_set]); exact Nat.le_of_ble_eq_true rfl), m0_227a hb (by (repeat rw [List.length_set]); exact Nat.le_of_ble_eq_true rfl), m0_235a hb (by (repeat rw [List.length_set]); exact Nat.le_of_ble_eq_true rfl), m0_243a hb (by (repeat rw [List.length_set]); exact Nat.le_of_ble_eq_true rfl), m0_251a hb (by (repeat rw [List.length_set]); exact Nat.le_of_ble_eq_true rfl), m0_259a hb (by (repeat rw [List.length_set]); exact Nat.le_of_ble_eq_true rfl), m0_267a hb (by (repeat rw [List.length_set]); exact Nat.le_of_ble_eq_true rfl), m0_275a hb (by (repeat rw [List.length_set]); exact Nat.le_of_ble_eq_true rfl), m0_283a hb (by (repeat rw [List.length_set]); exact Nat.le_of_ble_eq_true rfl), m0_292a hb (by (repeat rw [List.length_set]); exact Nat.le_of_ble_eq_true rfl), m0_301a hb (by (repeat rw [List.length_set]); exact Nat.le_of_ble_eq_true rfl), m0_310a hb (by (repeat rw [List.length_set]); exact Nat.le_of_ble_eq_true rfl), m0_319a hb (by (repeat rw [List.length_set]); exact Nat.le_of_ble_eq_true rfl), m0_328a hb (by (repeat rw [List.length_set]); exact Nat.le_of_ble_eq_true rfl), m0_336a hb (by (repeat rw [List.length_set]); exact Nat.le_of_ble_eq_true rfl), m0_344a hb (by (repeat rw [List.length_set]); exact Nat.le_of_ble_eq_true rfl), m0_352a hb (by (repeat rw [List.length_set]); exact Nat.le_of_ble_eq_true rfl), m0_360a hb (by (repeat rw [List.length_set]); exact Nat.le_of_ble_eq_true rfl), m0_368a hb (by (repeat rw [List.length_set]); exact Nat.le_of_ble_eq_true rfl), m0_376a hb (by (repeat rw [List.length_set]); exact Nat.le_of_ble_eq_true rfl), m0_384a hb (by (repeat rw [List.length_set]); exact Nat.le_of_ble_eq_true rfl), m0_393a hb (by (repeat rw [List.length_set]); exact Nat.le_of_ble_eq_true rfl)]
  simp only [put, pad_eq hb, objv, D0, A0, B0, S0, List.map_replicate, List.set_cons_succ, List.set_cons_zero, List.nil_append, List.cons_append, List.length_cons, List.length_nil, List.append_nil]
end Rules
/- methods: 0=MacroAssembler.<init>(I)V; 1=MacroAssembler.feedLong(J)I; 2=MacroAssembler.byteOf(JI)I; 3=MacroAssembler.validChar(I)Z; 4=MacroAssembler.resetResult()V; 5=MacroAssembler.assemble()I; 6=MacroAssembler.startRun()V; 7=MacroAssembler.splitLines()V; 8=MacroAssembler.setInput(II)V; 9=MacroAssembler.step()V; 10=MacroAssembler.copyLine(I)V; 11=MacroAssembler.normalLine()V; 12=MacroAssembler.findLabel()V; 13=MacroAssembler.skipSpaces(I)I; 14=MacroAssembler.identStart(I)Z; 15=MacroAssembler.identEnd(I)I; 16=MacroAssembler.identChar(I)Z; 17=MacroAssembler.pack(II)J; 18=MacroAssembler.wordAt(I)J; 19=MacroAssembler.kwCode(I)J; 20=MacroAssembler.word(IIIII)J; 21=MacroAssembler.kwIndex(J)I; 22=MacroAssembler.statement(I)V; 23=MacroAssembler.tokenize(I)V; 24=MacroAssembler.addTok(IIJ)V; 25=MacroAssembler.formSimple(I)V; 26=MacroAssembler.defineLabel()V; 27=MacroAssembler.emit(I)V; 28=MacroAssembler.exhausted()V; 29=MacroAssembler.finish()V; 30=MacroAssembler.buildListing()V; 31=MacroAssembler.listOne(I)I; 32=MacroAssembler.putKw(I)V; 33=MacroAssembler.putName(J)V; 34=MacroAssembler.nameLen(J)I; 35=MacroAssembler.nameChar(JII)I; 36=MacroAssembler.lstPut(I)V; 37=MacroAssembler.sourceLength()I; 38=MacroAssembler.status()I; 39=MacroAssembler.imageLength()I; 40=MacroAssembler.imageByte(I)I; 41=MacroAssemblerL2.okc(I)Z; 42=MacroAssemblerL2.law(IJ)Z -/
theorem own_l0 : (0 : Int64) &&& 255 = 0 := by decide +kernel
theorem own_l1 : (0 : Int64).toInt32 = 0 := by decide +kernel
theorem own_l2 : (1 : Int32) &&& 255 = 1 := by decide +kernel
theorem own_l3 : (10 : Int32).toUInt32.toUInt16.toUInt32.toInt32 = 10 := by decide +kernel
theorem own_l4 : (1189460 : Int64) &&& 127 = 84 := by decide +kernel
theorem own_l5 : (21580 : Int64) &&& 255 = 76 := by decide +kernel
theorem own_l6 : (5524552 : Int64) &&& 255 = 72 := by decide +kernel
theorem own_l7 : (65 : Int32).toInt64 = 65 := by decide +kernel
theorem own_l8 : (67 : Int32).toInt64 = 67 := by decide +kernel
theorem own_l9 : (69 : Int32).toInt64 = 69 := by decide +kernel
theorem own_l10 : (72 : Int32).toInt64 = 72 := by decide +kernel
theorem own_l11 : (72 : Int32).toUInt32.toUInt16.toUInt32.toInt32 = 72 := by decide +kernel
theorem own_l12 : (72 : Int64) &&& 127 = 72 := by decide +kernel
theorem own_l13 : (72 : Int64).toInt32 = 72 := by decide +kernel
theorem own_l14 : (76 : Int32).toInt64 = 76 := by decide +kernel
theorem own_l15 : (76 : Int32).toUInt32.toUInt16.toUInt32.toInt32 = 76 := by decide +kernel
theorem own_l16 : (76 : Int64).toInt32 = 76 := by decide +kernel
theorem own_l17 : (77 : Int32).toInt64 = 77 := by decide +kernel
theorem own_l18 : (78 : Int32).toInt64 = 78 := by decide +kernel
theorem own_l19 : (79 : Int32).toInt64 = 79 := by decide +kernel
theorem own_l20 : (80 : Int32).toInt64 = 80 := by decide +kernel
theorem own_l21 : (81 : Int32).toInt64 = 81 := by decide +kernel
theorem own_l22 : (82 : Int32).toInt64 = 82 := by decide +kernel
theorem own_l23 : (84 : Int32).toInt64 = 84 := by decide +kernel
theorem own_l24 : (84 : Int32).toUInt32.toUInt16.toUInt32.toInt32 = 84 := by decide +kernel
theorem own_l25 : (84 : Int64) &&& 255 = 84 := by decide +kernel
theorem own_l26 : (84 : Int64).toInt32 = 84 := by decide +kernel
theorem own_l27 : (85 : Int32).toInt64 = 85 := by decide +kernel
theorem own_l28 : (9292 : Int64) &&& 127 = 76 := by decide +kernel
theorem own_l29 : XT.cmpL (-1) (1140949) = (-1) := by decide +kernel
theorem own_l30 : XT.cmpL (-1) (20806953295) = (-1) := by decide +kernel
theorem own_l31 : XT.cmpL (0) (0) = (0) := by decide +kernel
theorem own_l32 : XT.cmpL (1189460) (0) = (1) := by decide +kernel
theorem own_l33 : XT.cmpL (1189460) (1189460) = (0) := by decide +kernel
theorem own_l34 : XT.cmpL (1288144) (1189460) = (1) := by decide +kernel
theorem own_l35 : XT.cmpL (72) (0) = (1) := by decide +kernel
theorem own_l36 : XT.cmpL (9292) (0) = (1) := by decide +kernel
theorem own_l37 : XT.ushrL 1189460 0 = 1189460 := by decide +kernel
theorem own_l38 : XT.ushrL 1189460 14 = 72 := by decide +kernel
theorem own_l39 : XT.ushrL 1189460 7 = 9292 := by decide +kernel
theorem own_l40 : XT.ushrL 5524552 0 = 5524552 := by decide +kernel
theorem own_l41 : XT.ushrL 5524552 16 = 84 := by decide +kernel
theorem own_l42 : XT.ushrL 5524552 24 = 0 := by decide +kernel
theorem own_l43 : XT.ushrL 5524552 8 = 21580 := by decide +kernel
theorem own_l44 : XT.ushrL 72 7 = 0 := by decide +kernel
theorem own_l45 : XT.ushrL 9292 7 = 72 := by decide +kernel
theorem own_l46 : nar .char (10) = (10) := by decide +kernel
theorem own_l47 : nar .char (72) = (72) := by decide +kernel
theorem own_l48 : nar .char (76) = (76) := by decide +kernel
theorem own_l49 : nar .char (84) = (84) := by decide +kernel
theorem own_b0g_0 (j : Int32) : getL (B0 0) j = 0 := getL_rep _ _
theorem own_b0g_1 (j : Int32) : getL (B0 1) j = 0 := getL_rep _ _
theorem own_b0g_2 (j : Int32) : getL (B0 2) j = 0 := getL_rep _ _
theorem own_b0g_3 (j : Int32) : getL (B0 3) j = 0 := getL_rep _ _
theorem own_b0g_4 (j : Int32) : getL (B0 4) j = 0 := getL_rep _ _
def own_ok (c : Int32) : Int32 := if c = 10 then 1 else if c < 32 then 0 else if 126 < c then 0 else 1
theorem own_okc {c : Int32} {H : AHeap} {Q : Option Value → AHeap → Prop} : M41 0 [.val (.int c)] [] H Q = Q (some (.int (own_ok c))) H := by
  unfold own_ok
  by_cases a1 : c = 10
  · simp [a1, m41_0, m41_1, m41_3, m41_6, m41_7, m41_9, m41_12, m41_13, m41_15, m41_18, m41_19, m41_22, m41_23, nb0, nb1, ou_a, Option.toList_some, Option.toList_none, List.nil_append, List.cons_append]
  by_cases a2 : c < 32
  · simp [a1, a2, m41_0, m41_1, m41_3, m41_6, m41_7, m41_9, m41_12, m41_13, m41_15, m41_18, m41_19, m41_22, m41_23, nb0, nb1, ou_a, Option.toList_some, Option.toList_none, List.nil_append, List.cons_append]
  by_cases a3 : 126 < c <;> simp [a1, a2, a3, m41_0, m41_1, m41_3, m41_6, m41_7, m41_9, m41_12, m41_13, m41_15, m41_18, m41_19, m41_22, m41_23, nb0, nb1, ou_a, Option.toList_some, Option.toList_none, List.nil_append, List.cons_append]
theorem own_val {b : Nat} {pre post : AHeap} {s : Nat → Int32} {A : Nat → List Int32} {L : Nat → Int64} {B : Nat → List Int64} {c : Int32} {Q : Option Value → AHeap → Prop} : M3 0 [.val (.ref b), .val (.int c)] [] (put b pre s A L B post) Q = Q (some (.int (own_ok c))) (put b pre s A L B post) := by
  unfold own_ok
  by_cases a1 : c = 10
  · simp [a1, m3_0, m3_1, m3_3, m3_6, m3_7, m3_9, m3_12, m3_13, m3_15, m3_18, m3_19, m3_22, m3_23, nb0, nb1, ou_a, Option.toList_some, Option.toList_none, List.nil_append, List.cons_append]
  by_cases a2 : c < 32
  · simp [a1, a2, m3_0, m3_1, m3_3, m3_6, m3_7, m3_9, m3_12, m3_13, m3_15, m3_18, m3_19, m3_22, m3_23, nb0, nb1, ou_a, Option.toList_some, Option.toList_none, List.nil_append, List.cons_append]
  by_cases a3 : 126 < c <;> simp [a1, a2, a3, m3_0, m3_1, m3_3, m3_6, m3_7, m3_9, m3_12, m3_13, m3_15, m3_18, m3_19, m3_22, m3_23, nb0, nb1, ou_a, Option.toList_some, Option.toList_none, List.nil_append, List.cons_append]
theorem own_sh0 (x : Int64) : XT.ushrL x 0 = x := by
  unfold XT.ushrL
  have e : ((0 : Int32).toInt64.toUInt64 &&& Int64.toUInt64 63) = 0 := by decide +kernel
  rw [e, UInt64.shiftRight_zero]
  exact Int64.toInt64_toUInt64 x
theorem own_gt {a b : Int32} {c : Int32} (h : ¬ a < b) (hb : c < b) : c < a := by
  rw [lt_i] at *
  omega
theorem own_fin (s' : Nat → Int32) (A' : Nat → List Int32) (L' : Nat → Int64) (B' : Nat → List Int64) (hl : ∀ i, (A' i).length = (A0 i).length) (hm : ∀ i, (B' i).length = (B0 i).length) : (some (Value.int 1) : Option Value) = some (.int 1) ∧ (put 0 [] s' A' L' B' []).length - ([] : AHeap).length ≤ 80 ∧ tot tables_1 (put 0 [] s' A' L' B' []) - tot tables_1 [] ≤ 18496 := by
  refine ⟨rfl, ?_, ?_⟩ <;> simp only [hl, hm, put_len, put_tot, pad_0, tot_nil, List.length_nil, List.length_cons, A0l_0, A0l_1, A0l_2, A0l_3, A0l_4, A0l_5, A0l_6, A0l_7, A0l_8, A0l_9, A0l_10, A0l_11, A0l_12, A0l_13, A0l_14, A0l_15, A0l_16, A0l_17, A0l_18, A0l_19, A0l_20, A0l_21, A0l_22, A0l_23, A0l_24, A0l_25, A0l_26, A0l_27, A0l_28, B0l_0, B0l_1, B0l_2, B0l_3, B0l_4] <;> omega
theorem own_lenB {B A : Nat → List Int64} {j : Nat} {l : List Int64} (h : ∀ i, (A i).length = (B i).length) (hl : l.length = (B j).length) : ∀ i, (ou A j l i).length = (B i).length := fun i => by
  rw [ou_a]
  split
  · rename_i e; rw [e]; exact hl
  · exact h i
set_option maxRecDepth 1000000 in
set_option maxHeartbeats 20000000 in
theorem own_tail (i0 : Int32) (i1 : Int64) (s : Nat → Int32) (A : Nat → List Int32) (L : Nat → Int64) (B : Nat → List Int64) (t22 : s 22 = 3) (t24 : s 24 = 1) (t26 : s 26 = 1) (tl : ∀ i, (A i).length = (A0 i).length) (tb : ∀ i, (B i).length = (B0 i).length) (ti : getA (A 3) 0 = 1) (Q : Option Value → AHeap → Prop) (hQ : ∀ s' A' L' B', (∀ i, (A' i).length = (A0 i).length) → (∀ i, (B' i).length = (B0 i).length) → Q (some (.int 1)) (put 0 [] s' A' L' B' [])) :
    M42 117 [.val (.int i0), .val (.long i1), .second, .val (.ref 0), .val (.int (i1 &&& 255).toInt32), .val (.int (XT.ushrL i1 8 &&& 255).toInt32), .val (.int (XT.ushrL i1 16 &&& 255).toInt32), .val (.int (XT.ushrL i1 24 &&& 255).toInt32), .val (.int (XT.ushrL i1 32 &&& 255).toInt32), .val (.int (XT.ushrL i1 40 &&& 255).toInt32), .val (.int (XT.ushrL i1 48 &&& 255).toInt32), .val (.int (XT.ushrL i1 56 &&& 255).toInt32), .unset, .unset, .unset, .unset, .unset, .unset] [] (put 0 [] s A L B []) Q := by
  by_cases z0 : (i1 &&& 255).toInt32 = 0
  rotate_left
  by_cases z1 : (XT.ushrL i1 8 &&& 255).toInt32 = 0
  rotate_left
  by_cases z2 : (XT.ushrL i1 16 &&& 255).toInt32 = 0
  rotate_left
  by_cases z3 : (XT.ushrL i1 24 &&& 255).toInt32 = 0
  rotate_left
  by_cases z4 : (XT.ushrL i1 32 &&& 255).toInt32 = 0
  rotate_left
  by_cases z5 : (XT.ushrL i1 40 &&& 255).toInt32 = 0
  rotate_left
  by_cases z6 : (XT.ushrL i1 48 &&& 255).toInt32 = 0
  rotate_left
  by_cases z7 : (XT.ushrL i1 56 &&& 255).toInt32 = 0
  rotate_left
  by_cases o0 : own_ok ((i1 &&& 255).toInt32) = 0
  rotate_left
  by_cases o1 : own_ok ((XT.ushrL i1 8 &&& 255).toInt32) = 0
  rotate_left
  by_cases o2 : own_ok ((XT.ushrL i1 16 &&& 255).toInt32) = 0
  rotate_left
  by_cases o3 : own_ok ((XT.ushrL i1 24 &&& 255).toInt32) = 0
  rotate_left
  by_cases o4 : own_ok ((XT.ushrL i1 32 &&& 255).toInt32) = 0
  rotate_left
  by_cases o5 : own_ok ((XT.ushrL i1 40 &&& 255).toInt32) = 0
  rotate_left
  by_cases o6 : own_ok ((XT.ushrL i1 48 &&& 255).toInt32) = 0
  rotate_left
  by_cases o7 : own_ok ((XT.ushrL i1 56 &&& 255).toInt32) = 0
  rotate_left
  rotate_left
  rotate_left
  by_cases o0 : own_ok ((i1 &&& 255).toInt32) = 0
  rotate_left
  rotate_left
  by_cases o0 : own_ok ((i1 &&& 255).toInt32) = 0
  rotate_left
  by_cases o1 : own_ok ((XT.ushrL i1 8 &&& 255).toInt32) = 0
  rotate_left
  rotate_left
  by_cases o0 : own_ok ((i1 &&& 255).toInt32) = 0
  rotate_left
  by_cases o1 : own_ok ((XT.ushrL i1 8 &&& 255).toInt32) = 0
  rotate_left
  by_cases o2 : own_ok ((XT.ushrL i1 16 &&& 255).toInt32) = 0
  rotate_left
  rotate_left
  by_cases o0 : own_ok ((i1 &&& 255).toInt32) = 0
  rotate_left
  by_cases o1 : own_ok ((XT.ushrL i1 8 &&& 255).toInt32) = 0
  rotate_left
  by_cases o2 : own_ok ((XT.ushrL i1 16 &&& 255).toInt32) = 0
  rotate_left
  by_cases o3 : own_ok ((XT.ushrL i1 24 &&& 255).toInt32) = 0
  rotate_left
  rotate_left
  by_cases o0 : own_ok ((i1 &&& 255).toInt32) = 0
  rotate_left
  by_cases o1 : own_ok ((XT.ushrL i1 8 &&& 255).toInt32) = 0
  rotate_left
  by_cases o2 : own_ok ((XT.ushrL i1 16 &&& 255).toInt32) = 0
  rotate_left
  by_cases o3 : own_ok ((XT.ushrL i1 24 &&& 255).toInt32) = 0
  rotate_left
  by_cases o4 : own_ok ((XT.ushrL i1 32 &&& 255).toInt32) = 0
  rotate_left
  rotate_left
  by_cases o0 : own_ok ((i1 &&& 255).toInt32) = 0
  rotate_left
  by_cases o1 : own_ok ((XT.ushrL i1 8 &&& 255).toInt32) = 0
  rotate_left
  by_cases o2 : own_ok ((XT.ushrL i1 16 &&& 255).toInt32) = 0
  rotate_left
  by_cases o3 : own_ok ((XT.ushrL i1 24 &&& 255).toInt32) = 0
  rotate_left
  by_cases o4 : own_ok ((XT.ushrL i1 32 &&& 255).toInt32) = 0
  rotate_left
  by_cases o5 : own_ok ((XT.ushrL i1 40 &&& 255).toInt32) = 0
  rotate_left
  rotate_left
  by_cases o0 : own_ok ((i1 &&& 255).toInt32) = 0
  rotate_left
  by_cases o1 : own_ok ((XT.ushrL i1 8 &&& 255).toInt32) = 0
  rotate_left
  by_cases o2 : own_ok ((XT.ushrL i1 16 &&& 255).toInt32) = 0
  rotate_left
  by_cases o3 : own_ok ((XT.ushrL i1 24 &&& 255).toInt32) = 0
  rotate_left
  by_cases o4 : own_ok ((XT.ushrL i1 32 &&& 255).toInt32) = 0
  rotate_left
  by_cases o5 : own_ok ((XT.ushrL i1 40 &&& 255).toInt32) = 0
  rotate_left
  by_cases o6 : own_ok ((XT.ushrL i1 48 &&& 255).toInt32) = 0
  rotate_left
  rotate_left
  all_goals simp [*, -Int64.toInt32_and, -Int64.toInt32_or, -Int64.toInt32_xor, -Int32.toInt64_and, -Int32.toInt64_or, -Int32.toInt64_xor, -Int32.toInt8_and, -Int32.toUInt32_and, -Int32.toUInt32_or, -Int32.toUInt32_xor, own_okc, own_val, own_sh0, m42_0, m42_3, m42_4, m42_5, m42_8u, m42_9, m42_10, m42_13, m42_16, m42_17, m42_22, m42_23, m42_26, m42_27, m42_32, m42_33, m42_36, m42_37, m42_38u, m42_40, m42_41, m42_43, m42_44, m42_47, m42_48, m42_49u, m42_51, m42_52, m42_54, m42_55, m42_58, m42_59, m42_60u, m42_62, m42_63, m42_65, m42_66, m42_69, m42_70, m42_71u, m42_73, m42_74, m42_76, m42_77, m42_80, m42_81, m42_82u, m42_84, m42_85, m42_87, m42_88, m42_91, m42_92, m42_93u, m42_95, m42_96, m42_98, m42_99, m42_102, m42_103, m42_104u, m42_106, m42_107, m42_109, m42_110, m42_113, m42_114, m42_115u, m42_117, m42_119, m42_122, m42_123, m42_126, m42_128, m42_131, m42_132, m42_135, m42_137, m42_140, m42_141, m42_144, m42_146, m42_149, m42_150, m42_153, m42_155, m42_158, m42_159, m42_162, m42_164, m42_167, m42_168, m42_171, m42_173, m42_176, m42_178, m42_181, m42_183, m42_186, m42_188, m42_191, m42_193u, m42_195, m42_197, m42_198, m42_201, m42_203, m42_206, m42_209, m42_211, m42_212, m42_215, m42_217, m42_220, m42_223, m42_225, m42_226, m42_229, m42_231, m42_234, m42_237, m42_239, m42_240, m42_243, m42_245, m42_248, m42_251, m42_252, m42_255, m42_256u, m42_258, m42_260, m42_263, m42_265, m42_266, m42_269, m42_271, m42_274, m42_277, m42_279, m42_281, m42_284, m42_286, m42_289, m42_292, m42_294, m42_296, m42_299, m42_301, m42_304, m42_307, m42_309, m42_311, m42_314, m42_316, m42_319, m42_322, m42_323, m42_326, m42_327i, m42_329, m42_330, m42_331, m42_334u, m42_336, m42_338, m42_341, m42_343, m42_346, m42_347u, m42_349, m42_351, m42_353, m42_358, m42_360, m42_363, m42_365, m42_368, m42_369, m42_372, m42_373u, m42_375, m42_377, m42_380, m42_381, m42_383, m42_384, m42_387, m42_388u, m42_390, m42_391, m42_394, m42_396, m42_401, m42_403, m42_406, m42_407, m42_410, m42_415, m42_416, m42_419, m42_424, m42_425, m42_426, m42_429, m42_430, m42_433, m42_434, m42_438, m42_439, m42_440, m42_443, m42_444, m42_449, m42_450, m42_453, m42_454, m42_459, m42_460, m42_461, m42_464, m42_465, m42_468, m42_469, m42_473, m1_0, m1_1u, m1_2, m1_3u, m1_5, m1_7, m1_9, m1_12, m1_13, m1_14, m1_16, m1_19u, m1_19i, m1_19r, m1_21, m1_23, m1_26, m1_29, m1_30, m1_32, m1_35, m1_38, m1_39, m1_40, m1_43, m1_46, m1_49, m1_50, m1_53, m1_54, m1_55, m1_58, m1_63, m1_64i, m1_66, m1_68, m1_69, m1_72, m1_73, m1_76, m1_79, m1_82, m1_83, m1_86, m1_87, m1_90, m1_91, m1_92, m1_94, m1_97, m1_98, m1_99, m1_100, m1_101, m1_104, m1_105, m1_106, m1_109, m1_112, m1_115, m1_116, m1_119, m1_120, m1_123, m1_124, m2_0, m2_1, m2_3, m2_4, m2_5, m2_6, m2_9, m2_10, m2_11, m4_0, m4_1, m4_2, m4_5, m4_6, m4_7, m4_10, m4_11, m4_12, m4_15, m4_16, m4_17, m4_20, m4_21, m4_22, m4_25, m4_26, m4_27, m4_30, m37_0, m37_1, m37_4, m38_0, m38_1, m38_4, m39_0, m39_1, m39_4, m39_5, m39_8, m39_9, m39_12, m39_15, m39_16, m40_0, m40_1, m40_4, m40_5, m40_6, m40_9, m40_12, m40_13, m40_15, m40_18, m40_19, m40_20, m40_21, m40_24, m40_25, m40_26, nb0, nb1, ou_a, Option.toList_some, Option.toList_none, List.nil_append, List.cons_append, own_l0, own_l1, own_l2, own_l3, own_l4, own_l5, own_l6, own_l7, own_l8, own_l9, own_l10, own_l11, own_l12, own_l13, own_l14, own_l15, own_l16, own_l17, own_l18, own_l19, own_l20, own_l21, own_l22, own_l23, own_l24, own_l25, own_l26, own_l27, own_l28, own_l29, own_l30, own_l31, own_l32, own_l33, own_l34, own_l35, own_l36, own_l37, own_l38, own_l39, own_l40, own_l41, own_l42, own_l43, own_l44, own_l45, own_l46, own_l47, own_l48, own_l49, getA_set2, setA_len, inB_iff, A0l_0, A0l_3]
  all_goals exact hQ _ _ _ _ (by (repeat refine len_ou ?_ (by simp only [setA_len, tl])); exact tl) tb
set_option maxRecDepth 1000000 in
set_option maxHeartbeats 20000000 in
theorem own_rest (i0 : Int32) (i1 : Int64) (s : Nat → Int32) (h0 : s 0 = 1) (h1 : s 1 = 2) (h2 : s 2 = 1) (h3 : s 3 = 2) (h4 : s 4 = 3) (h5 : s 5 = 0) (h6 : s 6 = 1) (h7 : s 7 = 2) (h8 : s 8 = 0) (h9 : s 9 = 1) (h10 : s 10 = 2) (h11 : s 11 = 10) (h12 : s 12 = 11) (h13 : s 13 = 12) (h14 : s 14 = 13) (h15 : s 15 = 14) (h16 : s 16 = 15) (h17 : s 17 = 16) (h18 : s 18 = 17) (h19 : s 19 = 18) (h20 : s 20 = 81) (h22 : s 22 = 0) (h23 : s 23 = 0) (h24 : s 24 = 0) (h25 : s 25 = 0) (h26 : s 26 = 0) (h27 : s 27 = 0) (h28 : s 28 = 0) (h29 : s 29 = 0) (h30 : s 30 = 0) (h31 : s 31 = 0) (h32 : s 32 = 0) (h33 : s 33 = 0) (h34 : s 34 = 0) (h35 : s 35 = 0) (h36 : s 36 = 0) (h37 : s 37 = 0) (h38 : s 38 = 0) (h39 : s 39 = 0) (h40 : s 40 = 0) (h41 : s 41 = 0) (h42 : s 42 = 0) (h43 : s 43 = 0) (h44 : s 44 = 0) (h45 : s 45 = 0) (h46 : s 46 = 0) (h47 : s 47 = 0) (h48 : s 48 = 0) (h49 : s 49 = 0) (h50 : s 50 = 0) (h51 : s 51 = 0) (h52 : s 52 = 0) (h53 : s 53 = 0) (h54 : s 54 = 0) (hc : 0 < s 21) (Q : Option Value → AHeap → Prop) (hQ : ∀ s' A' L' B', (∀ i, (A' i).length = (A0 i).length) → (∀ i, (B' i).length = (B0 i).length) → Q (some (.int 1)) (put 0 [] s' A' L' B' [])) :
    M42 8 [.val (.int i0), .val (.long i1), .second, .unset, .unset, .unset, .unset, .unset, .unset, .unset, .unset, .unset, .unset, .unset, .unset, .unset, .unset, .unset] [.ref 0] (put 0 [] s A0 (fun _ => 0) B0 []) Q := by
  simp [h0, h1, h2, h3, h4, h5, h6, h7, h8, h9, h10, h11, h12, h13, h14, h15, h16, h17, h18, h19, h20, h22, h23, h24, h25, h26, h27, h28, h29, h30, h31, h32, h33, h34, h35, h36, h37, h38, h39, h40, h41, h42, h43, h44, h45, h46, h47, h48, h49, h50, h51, h52, h53, h54, hc, own_sh0, own_b0g_0, own_b0g_1, own_b0g_2, own_b0g_3, own_b0g_4, getL_set2, -Int64.toInt32_and, -Int64.toInt32_or, -Int64.toInt32_xor, -Int32.toInt64_and, -Int32.toInt64_or, -Int32.toInt64_xor, -Int32.toInt8_and, -Int32.toUInt32_and, -Int32.toUInt32_or, -Int32.toUInt32_xor, m0_0, m0_1, m0_4, m0_5, m0_6, m0_9, m0_10, m0_11, m0_14, m0_15, m0_16, m0_19, m0_20, m0_21, m0_24, m0_25, m0_26, m0_29, m0_30, m0_31, m0_34, m0_35, m0_36, m0_39, m0_40, m0_41, m0_44, m0_45, m0_46, m0_49, m0_50, m0_51, m0_54, m0_55, m0_56, m0_59, m0_60, m0_62, m0_65, m0_66, m0_68, m0_71, m0_72, m0_74, m0_77, m0_78, m0_80, m0_83, m0_84, m0_86, m0_89, m0_90, m0_92, m0_95, m0_96, m0_98, m0_101, m0_102, m0_104, m0_107, m0_108, m0_110, m0_113, m0_114, m0_116, m0_119, m0_120, m0_128, m0_129, m0_137, m0_138, m0_146, m0_147, m0_154, m0_155, m0_162, m0_163, m0_170, m0_171, m0_179, m0_180, m0_187, m0_188, m0_195, m0_196, m0_203, m0_204, m0_211, m0_212, m0_219, m0_220, m0_227, m0_228, m0_235, m0_236, m0_243, m0_244, m0_251, m0_252, m0_259, m0_260, m0_267, m0_268, m0_275, m0_276, m0_283, m0_284, m0_292, m0_293, m0_301, m0_302, m0_310, m0_311, m0_319, m0_320, m0_328, m0_329, m0_336, m0_337, m0_344, m0_345, m0_352, m0_353, m0_360, m0_361, m0_368, m0_369, m0_376, m0_377, m0_384, m0_385, m0_393, m0_394, m0_402, m0_403u, m0_404, m0_405, m0_407, m0_410, m0_412i, m0_413, m0_414, m0_416, m0_419, m0_421i, m0_422, m0_423, m0_424, m0_427, m1_0, m1_1u, m1_2, m1_3u, m1_5, m1_7, m1_9, m1_12, m1_13, m1_14, m1_16, m1_19u, m1_19i, m1_19r, m1_21, m1_23, m1_26, m1_29, m1_30, m1_32, m1_35, m1_38, m1_39, m1_40, m1_43, m1_46, m1_49, m1_50, m1_53, m1_54, m1_55, m1_58, m1_63, m1_64i, m1_66, m1_68, m1_69, m1_72, m1_73, m1_76, m1_79, m1_82, m1_83, m1_86, m1_87, m1_90, m1_91, m1_92, m1_94, m1_97, m1_98, m1_99, m1_100, m1_101, m1_104, m1_105, m1_106, m1_109, m1_112, m1_115, m1_116, m1_119, m1_120, m1_123, m1_124, m2_0, m2_1, m2_3, m2_4, m2_5, m2_6, m2_9, m2_10, m2_11, m3_0, m3_1, m3_3, m3_6, m3_7, m3_9, m3_12, m3_13, m3_15, m3_18, m3_19, m3_22, m3_23, m4_0, m4_1, m4_2, m4_5, m4_6, m4_7, m4_10, m4_11, m4_12, m4_15, m4_16, m4_17, m4_20, m4_21, m4_22, m4_25, m4_26, m4_27, m4_30, m5_0, m5_1, m5_4, m5_5u, m5_6, m5_7, m5_10, m5_13, m5_14, m5_17, m5_20, m5_21, m5_24, m5_27, m5_28, m5_31, m5_34, m5_37, m5_38, m5_41, m5_44, m5_45, m5_48, m5_65, m5_66, m5_69, m5_72, m5_73, m5_76, m5_77, m5_80, m5_119, m5_120, m5_121, m5_124, m5_125, m5_126, m5_129, m5_130, m5_131, m5_134, m5_137, m5_138, m5_139, m5_142, m5_145, m5_146, m5_149, m5_150, m5_153, m6_0, m6_1, m6_2, m6_5, m6_6, m6_7, m6_10, m6_11, m6_12, m6_15, m6_16, m6_17, m6_20, m6_21, m6_22, m6_25, m6_26, m6_27, m6_30, m6_31, m6_32, m6_35, m6_36, m6_37, m6_40, m6_41, m6_42, m6_45, m6_46, m6_47, m6_50, m6_51, m6_52, m6_55, m6_56, m6_57, m6_60, m6_61, m6_62, m6_65, m6_66, m6_67, m6_70, m6_71, m6_74, m6_75, m6_76, m6_77, m6_80, m7_0, m7_1, m7_2, m7_5, m7_6u, m7_7, m7_8u, m7_9, m7_10, m7_11, m7_14, m7_17, m7_18, m7_21, m7_24, m7_25, m7_28, m7_29, m7_30, m7_32, m7_79, m7_82, m7_85, m7_86, m7_87, m7_90, m7_93, m7_94, m7_97, m7_100, m7_103, m7_104, m7_107, m7_108, m7_111, m7_112, m7_113, m7_114, m7_117, m7_118, m7_121, m7_122, m7_125, m7_126, m7_127, m7_128, m7_131, m7_132, m7_133, m7_136, m8_0, m8_1, m8_2, m8_5, m8_6, m8_7, m8_10, m8_11, m8_12, m8_30, m8_31, m8_34, m8_37, m9_0, m9_1, m9_4, m9_5, m9_8, m9_11, m9_12, m9_15, m9_16, m9_17, m9_20u, m9_21, m9_22, m9_23, m9_26, m9_27, m9_28, m9_31, m9_32, m9_33, m9_36, m9_39, m9_40, m9_41, m9_42, m9_49, m9_52, m9_53, m9_54, m9_57, m9_58, m9_59, m9_62, m9_63, m9_66, m9_69, m9_77, m9_78, m9_81, m9_82, m9_83, m9_86, m9_94, m9_95, m9_98, m9_101, m9_102, m9_103, m9_106, m9_114, m9_115, m9_118, m9_122, m9_123, m9_126, m9_127, m9_138, m9_139, m9_142, m9_143, m9_153, m9_154, m9_157, m10_0, m10_1, m10_2, m10_5, m10_6, m10_9, m10_10, m10_11u, m10_12, m10_13, m10_14, m10_17, m10_18, m10_19, m10_22, m10_23, m10_26, m10_29, m10_32, m10_33, m10_36, m10_37, m10_40, m10_41, m10_44, m10_45, m10_46, m10_47, m10_48, m10_49, m10_52, m10_53, m10_54, m10_57, m10_60, m10_63, m11_0, m11_1, m11_4, m11_5, m11_6, m11_9, m11_12u, m11_13, m11_14, m11_15, m11_18, m11_21, m11_22, m11_25, m11_26, m11_27, m11_29, m11_37, m11_38, m11_39, m11_42, m11_43, m11_44, m11_47, m11_55, m11_56, m11_57, m11_60u, m11_61, m11_62, m11_63, m11_64, m11_67, m11_68, m11_69, m11_70, m11_73u, m11_75, m11_76, m11_78, m11_81, m11_83, m11_85, m11_86, m11_88, m11_91, m11_92, m11_100, m11_102, m11_103, m11_105, m11_108, m11_109, m11_117, m11_118, m11_119, m11_122u, m11_124, m11_126, m11_129, m11_130, m11_132, m11_135, m12_0, m12_1, m12_2, m12_5, m12_6, m12_7, m12_10, m12_11, m12_12, m12_15u, m12_16, m12_17, m12_18, m12_21, m12_24, m12_25, m12_26, m12_29, m12_30, m12_31, m12_34, m12_38, m12_39, m12_40, m12_43u, m12_44, m12_45, m12_46, m12_49u, m12_50, m12_51, m12_52, m12_55, m12_91, m13_0, m13_1u, m13_2, m13_3u, m13_4, m13_5, m13_8, m13_11, m13_12, m13_13, m13_16, m13_19, m13_20, m13_23, m13_24, m13_25, m13_27, m13_39, m13_40, m14_0, m14_1, m14_3, m14_6, m14_7, m14_9, m14_30, m14_31, m14_35, m15_0, m15_1u, m15_2, m15_3u, m15_4, m15_5, m15_8, m15_11, m15_12, m15_13, m15_16, m15_19, m15_20, m15_21, m15_24, m15_25, m15_26, m15_29, m15_32, m15_35, m15_38, m15_41, m15_42, m16_0, m16_1, m16_2, m16_5, m16_16, m16_17, m16_21, m17_0, m17_1, m17_2, m17_3, m17_5, m17_8, m17_9, m17_10, m17_17, m17_18, m17_19, m17_20u, m17_22, m17_24, m17_25, m17_28, m17_30, m17_31, m17_34, m17_37, m17_38, m17_41, m17_42, m17_43, m17_46, m17_48, m17_49, m17_50, m17_51, m17_52, m17_55, m17_58, m17_59, m18_0, m18_1, m18_4, m18_5, m18_6, m18_9, m18_25, m18_28, m19_0, m19_1_0, m19_1_1, m19_1_2, m19_1_3, m19_1_4, m19_1_5, m19_1_6, m19_1_7, m19_1_8, m19_1_9, m19_1_10, m19_1_11, m19_1_12, m19_1_13, m19_1_14, m19_1_15, m19_1_16, m19_1_17, m19_1_18, m19_92, m19_93, m19_95, m19_97, m19_99, m19_100, m19_101, m19_104, m19_105, m19_106, m19_108, m19_110, m19_112, m19_113, m19_114, m19_117, m19_233, m19_234, m19_236, m19_238, m19_240, m19_241, m19_242, m19_245, m19_246, m19_247, m19_249, m19_251, m19_253, m19_255, m19_257, m19_260, m20_0, m20_1, m20_2, m20_5, m20_6, m20_7, m20_8, m20_9, m20_11, m20_12, m20_15, m20_17, m20_20, m20_21, m20_22, m20_23, m20_24, m20_26, m20_28, m20_31, m20_33, m20_36, m20_37, m20_39, m20_40, m20_41, m20_43, m20_45, m20_48, m20_50, m20_53, m20_54, m20_56, m20_57, m20_58, m20_60, m20_62, m21_0, m21_1, m21_2, m21_3, m21_8, m21_9u, m21_10, m21_11, m21_13, m21_16, m21_17, m21_18, m21_21, m21_22, m21_23, m21_26, m21_27, m21_28, m21_31, m22_0, m22_1, m22_3, m22_6, m22_7, m22_9, m22_12, m22_13, m22_15, m22_23, m22_24, m22_25, m22_28, m22_31, m22_32, m22_35, m22_39, m22_40, m22_41, m22_44, m22_45, m22_46, m22_49, m22_86, m23_0, m23_1, m23_2, m23_5, m23_6u, m23_7, m23_8u, m23_9, m23_10, m23_13, m23_16, m23_17, m23_18, m23_21, m23_24, m23_25, m23_28, m23_31, m23_32, m23_35, m23_36, m23_37u, m23_37i, m23_37r, m23_39, m23_41, m23_43, m23_47, m23_49, m23_51, m23_60, m23_61, m23_63, m23_66, m23_69, m23_70, m23_71, m23_74u, m23_74i, m23_74r, m23_76, m23_78, m23_79, m23_80, m23_82, m23_90, m23_91, m23_92, m23_94, m23_97, m23_99, m23_100, m23_101, m23_102, m23_104, m23_107, m23_109i, m23_110, m23_185, m23_188, m23_191, m24_0, m24_1, m24_4, m24_7, m24_15, m24_16, m24_19, m24_20, m24_23, m24_24, m24_25, m24_26, m24_29, m24_30, m24_33, m24_34, m24_35, m24_36, m24_39, m24_40, m24_43, m24_44, m24_45, m24_46, m24_47, m24_50, m24_51, m24_52, m24_55, m25_0, m25_1, m25_4, m25_5, m25_13, m25_14, m25_17, m25_18, m25_21, m25_25, m25_26, m25_27, m25_30, m26_0, m26_1, m26_4, m26_19, m27_0, m27_1, m27_4, m27_5, m27_8, m27_11, m27_12, m27_15, m27_17, m27_25, m27_26, m27_29, m27_30, m27_33, m27_34, m27_37, m27_38, m27_39, m27_40, m27_41, m27_44, m27_45, m27_46, m27_49, m28_0, m28_1, m28_4, m28_7, m28_8, m28_9, m28_12, m28_13, m28_14, m28_17, m28_18, m28_21, m28_24, m28_25, m28_28, m28_38, m28_39, m28_40, m28_43, m29_0, m29_1u, m29_2, m29_3, m29_4, m29_7, m29_162, m30_0, m30_1, m30_2, m30_5, m30_6u, m30_7, m30_8, m30_9, m30_12, m30_71, m30_72i, m30_73, m30_74u, m30_75, m30_76, m30_78, m30_81, m30_82, m30_83, m30_86, m30_89, m30_90, m30_92, m30_95, m30_96, m30_97, m30_100i, m30_101, m30_104, m30_107, m31_0, m31_1, m31_4, m31_5, m31_6u, m31_7, m31_8, m31_11, m31_12, m31_13, m31_16, m31_17, m31_18, m31_21, m31_22, m31_24, m31_27, m31_28, m31_29, m31_30, m32_0, m32_1, m32_2, m32_5, m32_6, m32_7, m32_8, m32_11, m33_0, m33_1, m33_2, m33_5u, m33_6, m33_7u, m33_9, m33_11, m33_12, m33_15, m33_16, m33_17, m33_19, m33_20, m33_23u, m33_23i, m33_23r, m33_25, m33_26, m33_28, m33_31, m33_34, m33_37, m34_0, m34_1, m34_2, m34_3u, m34_5, m34_6u, m34_8, m34_10, m34_12, m34_15, m34_16, m34_17, m34_18, m34_21, m34_22, m34_24, m34_25, m34_26, m34_29, m34_32, m34_35, m34_37, m35_0, m35_1, m35_3, m35_5, m35_6, m35_7, m35_8, m35_9, m35_10, m35_11, m35_14, m35_15, m35_16, m36_0, m36_1, m36_4, m36_7, m36_11, m36_12, m36_15, m36_16, m36_19, m36_20, m36_21, m36_22, m36_23, m36_24, m36_27, m36_28, m36_29, m36_32, m37_0, m37_1, m37_4, m38_0, m38_1, m38_4, m39_0, m39_1, m39_4, m39_5, m39_8, m39_9, m39_12, m39_15, m39_16, m40_0, m40_1, m40_4, m40_5, m40_6, m40_9, m40_12, m40_13, m40_15, m40_18, m40_19, m40_20, m40_21, m40_24, m40_25, m40_26, m41_0, m41_1, m41_3, m41_6, m41_7, m41_9, m41_12, m41_13, m41_15, m41_18, m41_19, m41_22, m41_23, m42_0, m42_3, m42_4, m42_5, m42_8u, m42_9, m42_10, m42_13, m42_16, m42_17, m42_22, m42_23, m42_26, m42_27, m42_32, m42_33, m42_36, m42_37, m42_38u, m42_40, m42_41, m42_43, m42_44, m42_47, m42_48, m42_49u, m42_51, m42_52, m42_54, m42_55, m42_58, m42_59, m42_60u, m42_62, m42_63, m42_65, m42_66, m42_69, m42_70, m42_71u, m42_73, m42_74, m42_76, m42_77, m42_80, m42_81, m42_82u, m42_84, m42_85, m42_87, m42_88, m42_91, m42_92, m42_93u, m42_95, m42_96, m42_98, m42_99, m42_102, m42_103, m42_104u, m42_106, m42_107, m42_109, m42_110, m42_113, m42_114, m42_115u, m42_119, m42_122, m42_123, m42_126, m42_128, m42_131, m42_132, m42_135, m42_137, m42_140, m42_141, m42_144, m42_146, m42_149, m42_150, m42_153, m42_155, m42_158, m42_159, m42_162, m42_164, m42_167, m42_168, m42_171, m42_173, m42_176, m42_178, m42_181, m42_183, m42_186, m42_188, m42_191, m42_193u, m42_195, m42_197, m42_198, m42_201, m42_203, m42_206, m42_209, m42_211, m42_212, m42_215, m42_217, m42_220, m42_223, m42_225, m42_226, m42_229, m42_231, m42_234, m42_237, m42_239, m42_240, m42_243, m42_245, m42_248, m42_251, m42_252, m42_255, m42_256u, m42_258, m42_260, m42_263, m42_265, m42_266, m42_269, m42_271, m42_274, m42_277, m42_279, m42_281, m42_284, m42_286, m42_289, m42_292, m42_294, m42_296, m42_299, m42_301, m42_304, m42_307, m42_309, m42_311, m42_314, m42_316, m42_319, m42_322, m42_323, m42_326, m42_327i, m42_329, m42_330, m42_331, m42_334u, m42_336, m42_338, m42_341, m42_343, m42_346, m42_347u, m42_349, m42_351, m42_353, m42_358, m42_360, m42_363, m42_365, m42_368, m42_369, m42_372, m42_373u, m42_375, m42_377, m42_380, m42_381, m42_383, m42_384, m42_387, m42_388u, m42_390, m42_391, m42_394, m42_396, m42_401, m42_403, m42_406, m42_407, m42_410, m42_415, m42_416, m42_419, m42_424, m42_425, m42_426, m42_429, m42_430, m42_433, m42_434, m42_438, m42_439, m42_440, m42_443, m42_444, m42_449, m42_450, m42_453, m42_454, m42_459, m42_460, m42_461, m42_464, m42_465, m42_468, m42_469, m42_473, nb0, nb1, ou_a, Option.toList_some, Option.toList_none, List.nil_append, List.cons_append, ou_same, ou_comm, setA_same, setA_comm, own_l0, own_l1, own_l2, own_l3, own_l4, own_l5, own_l6, own_l7, own_l8, own_l9, own_l10, own_l11, own_l12, own_l13, own_l14, own_l15, own_l16, own_l17, own_l18, own_l19, own_l20, own_l21, own_l22, own_l23, own_l24, own_l25, own_l26, own_l27, own_l28, own_l29, own_l30, own_l31, own_l32, own_l33, own_l34, own_l35, own_l36, own_l37, own_l38, own_l39, own_l40, own_l41, own_l42, own_l43, own_l44, own_l45, own_l46, own_l47, own_l48, own_l49, getA_set2, setA_len, inB_iff, A0g_0, A0g_1, A0g_2, A0g_3, A0g_4, A0g_5, A0g_6, A0g_7, A0g_8, A0g_9, A0g_10, A0g_11, A0g_12, A0g_13, A0g_14, A0g_15, A0g_16, A0g_17, A0g_18, A0g_19, A0g_20, A0g_21, A0g_22, A0g_23, A0g_24, A0g_25, A0g_26, A0g_27, A0g_28, A0l_0, A0l_1, A0l_2, A0l_3, A0l_4, A0l_5, A0l_6, A0l_7, A0l_8, A0l_9, A0l_10, A0l_11, A0l_12, A0l_13, A0l_14, A0l_15, A0l_16, A0l_17, A0l_18, A0l_19, A0l_20, A0l_21, A0l_22, A0l_23, A0l_24, A0l_25, A0l_26, A0l_27, A0l_28, B0l_0, B0l_1, B0l_2, B0l_3, B0l_4]
  exact own_tail _ _ _ _ _ _ (by simp [ou_a]) (by simp [ou_a]) (by simp [ou_a]) (by (repeat refine len_ou ?_ (by simp only [setA_len])); exact fun _ => rfl) (by (repeat refine own_lenB ?_ (by simp only [setA_len])); exact fun _ => rfl) (by simp [ou_a, getA_set2, setA_len, inB_iff, A0g_0, A0g_1, A0g_2, A0g_3, A0g_4, A0g_5, A0g_6, A0g_7, A0g_8, A0g_9, A0g_10, A0g_11, A0g_12, A0g_13, A0g_14, A0g_15, A0g_16, A0g_17, A0g_18, A0g_19, A0g_20, A0g_21, A0g_22, A0g_23, A0g_24, A0g_25, A0g_26, A0g_27, A0g_28, A0l_0, A0l_1, A0l_2, A0l_3, A0l_4, A0l_5, A0l_6, A0l_7, A0l_8, A0l_9, A0l_10, A0l_11, A0l_12, A0l_13, A0l_14, A0l_15, A0l_16, A0l_17, A0l_18, A0l_19, A0l_20, A0l_21, A0l_22, A0l_23, A0l_24, A0l_25, A0l_26, A0l_27, A0l_28, B0l_0, B0l_1, B0l_2, B0l_3, B0l_4]) Q hQ
set_option maxRecDepth 1000000 in
set_option maxHeartbeats 20000000 in
theorem own_gen (i0 : Int32) (i1 : Int64) {Q : Option Value → AHeap → Prop} (hQ : ∀ s' A' L' B', (∀ i, (A' i).length = (A0 i).length) → (∀ i, (B' i).length = (B0 i).length) → Q (some (.int 1)) (put 0 [] s' A' L' B' [])) : M42 0 [.val (.int i0), .val (.long i1), .second, .unset, .unset, .unset, .unset, .unset, .unset, .unset, .unset, .unset, .unset, .unset, .unset, .unset, .unset, .unset] [] [] Q := by
  rw [m42_0, m42_3, m42_4, m42_5, own_ctor0 rfl]
  by_cases a1 : i0 < 8
  · simp [a1, m0_0, m0_1, m0_4, m0_5, m0_6, m0_9, m0_10, m0_11, m0_14, m0_15, m0_16, m0_19, m0_20, m0_21, m0_24, m0_25, m0_26, m0_29, m0_30, m0_31, m0_34, m0_35, m0_36, m0_39, m0_40, m0_41, m0_44, m0_45, m0_46, m0_49, m0_50, m0_51, m0_54, m0_55, m0_56, m0_59, m0_60, m0_62, m0_65, m0_66, m0_68, m0_71, m0_72, m0_74, m0_77, m0_78, m0_80, m0_83, m0_84, m0_86, m0_89, m0_90, m0_92, m0_95, m0_96, m0_98, m0_101, m0_102, m0_104, m0_107, m0_108, m0_110, m0_113, m0_114, m0_116, m0_119, m0_120, m0_128, m0_129, m0_137, m0_138, m0_146, m0_147, m0_154, m0_155, m0_162, m0_163, m0_170, m0_171, m0_179, m0_180, m0_187, m0_188, m0_195, m0_196, m0_203, m0_204, m0_211, m0_212, m0_219, m0_220, m0_227, m0_228, m0_235, m0_236, m0_243, m0_244, m0_251, m0_252, m0_259, m0_260, m0_267, m0_268, m0_275, m0_276, m0_283, m0_284, m0_292, m0_293, m0_301, m0_302, m0_310, m0_311, m0_319, m0_320, m0_328, m0_329, m0_336, m0_337, m0_344, m0_345, m0_352, m0_353, m0_360, m0_361, m0_368, m0_369, m0_376, m0_377, m0_384, m0_385, m0_393, m0_394, m0_402, m0_403u, m0_404, m0_405, m0_407, m0_410, m0_412i, m0_413, m0_414, m0_416, m0_419, m0_421i, m0_422, m0_423, m0_424, m0_427, nb0, nb1, ou_a, Option.toList_some, Option.toList_none, List.nil_append, List.cons_append]
    exact own_rest _ _ _ (by simp [ou_a, S0]) (by simp [ou_a, S0]) (by simp [ou_a, S0]) (by simp [ou_a, S0]) (by simp [ou_a, S0]) (by simp [ou_a, S0]) (by simp [ou_a, S0]) (by simp [ou_a, S0]) (by simp [ou_a, S0]) (by simp [ou_a, S0]) (by simp [ou_a, S0]) (by simp [ou_a, S0]) (by simp [ou_a, S0]) (by simp [ou_a, S0]) (by simp [ou_a, S0]) (by simp [ou_a, S0]) (by simp [ou_a, S0]) (by simp [ou_a, S0]) (by simp [ou_a, S0]) (by simp [ou_a, S0]) (by simp [ou_a, S0]) (by simp [ou_a, S0]) (by simp [ou_a, S0]) (by simp [ou_a, S0]) (by simp [ou_a, S0]) (by simp [ou_a, S0]) (by simp [ou_a, S0]) (by simp [ou_a, S0]) (by simp [ou_a, S0]) (by simp [ou_a, S0]) (by simp [ou_a, S0]) (by simp [ou_a, S0]) (by simp [ou_a, S0]) (by simp [ou_a, S0]) (by simp [ou_a, S0]) (by simp [ou_a, S0]) (by simp [ou_a, S0]) (by simp [ou_a, S0]) (by simp [ou_a, S0]) (by simp [ou_a, S0]) (by simp [ou_a, S0]) (by simp [ou_a, S0]) (by simp [ou_a, S0]) (by simp [ou_a, S0]) (by simp [ou_a, S0]) (by simp [ou_a, S0]) (by simp [ou_a, S0]) (by simp [ou_a, S0]) (by simp [ou_a, S0]) (by simp [ou_a, S0]) (by simp [ou_a, S0]) (by simp [ou_a, S0]) (by simp [ou_a, S0]) (by simp [ou_a, S0]) (by simp [ou_a]) _ hQ
  by_cases a2 : 32 < i0
  · simp [a1, a2, m0_0, m0_1, m0_4, m0_5, m0_6, m0_9, m0_10, m0_11, m0_14, m0_15, m0_16, m0_19, m0_20, m0_21, m0_24, m0_25, m0_26, m0_29, m0_30, m0_31, m0_34, m0_35, m0_36, m0_39, m0_40, m0_41, m0_44, m0_45, m0_46, m0_49, m0_50, m0_51, m0_54, m0_55, m0_56, m0_59, m0_60, m0_62, m0_65, m0_66, m0_68, m0_71, m0_72, m0_74, m0_77, m0_78, m0_80, m0_83, m0_84, m0_86, m0_89, m0_90, m0_92, m0_95, m0_96, m0_98, m0_101, m0_102, m0_104, m0_107, m0_108, m0_110, m0_113, m0_114, m0_116, m0_119, m0_120, m0_128, m0_129, m0_137, m0_138, m0_146, m0_147, m0_154, m0_155, m0_162, m0_163, m0_170, m0_171, m0_179, m0_180, m0_187, m0_188, m0_195, m0_196, m0_203, m0_204, m0_211, m0_212, m0_219, m0_220, m0_227, m0_228, m0_235, m0_236, m0_243, m0_244, m0_251, m0_252, m0_259, m0_260, m0_267, m0_268, m0_275, m0_276, m0_283, m0_284, m0_292, m0_293, m0_301, m0_302, m0_310, m0_311, m0_319, m0_320, m0_328, m0_329, m0_336, m0_337, m0_344, m0_345, m0_352, m0_353, m0_360, m0_361, m0_368, m0_369, m0_376, m0_377, m0_384, m0_385, m0_393, m0_394, m0_402, m0_403u, m0_404, m0_405, m0_407, m0_410, m0_412i, m0_413, m0_414, m0_416, m0_419, m0_421i, m0_422, m0_423, m0_424, m0_427, nb0, nb1, ou_a, Option.toList_some, Option.toList_none, List.nil_append, List.cons_append]
    exact own_rest _ _ _ (by simp [ou_a, S0]) (by simp [ou_a, S0]) (by simp [ou_a, S0]) (by simp [ou_a, S0]) (by simp [ou_a, S0]) (by simp [ou_a, S0]) (by simp [ou_a, S0]) (by simp [ou_a, S0]) (by simp [ou_a, S0]) (by simp [ou_a, S0]) (by simp [ou_a, S0]) (by simp [ou_a, S0]) (by simp [ou_a, S0]) (by simp [ou_a, S0]) (by simp [ou_a, S0]) (by simp [ou_a, S0]) (by simp [ou_a, S0]) (by simp [ou_a, S0]) (by simp [ou_a, S0]) (by simp [ou_a, S0]) (by simp [ou_a, S0]) (by simp [ou_a, S0]) (by simp [ou_a, S0]) (by simp [ou_a, S0]) (by simp [ou_a, S0]) (by simp [ou_a, S0]) (by simp [ou_a, S0]) (by simp [ou_a, S0]) (by simp [ou_a, S0]) (by simp [ou_a, S0]) (by simp [ou_a, S0]) (by simp [ou_a, S0]) (by simp [ou_a, S0]) (by simp [ou_a, S0]) (by simp [ou_a, S0]) (by simp [ou_a, S0]) (by simp [ou_a, S0]) (by simp [ou_a, S0]) (by simp [ou_a, S0]) (by simp [ou_a, S0]) (by simp [ou_a, S0]) (by simp [ou_a, S0]) (by simp [ou_a, S0]) (by simp [ou_a, S0]) (by simp [ou_a, S0]) (by simp [ou_a, S0]) (by simp [ou_a, S0]) (by simp [ou_a, S0]) (by simp [ou_a, S0]) (by simp [ou_a, S0]) (by simp [ou_a, S0]) (by simp [ou_a, S0]) (by simp [ou_a, S0]) (by simp [ou_a, S0]) (by simp [ou_a]) _ hQ
  simp [a1, a2, m0_0, m0_1, m0_4, m0_5, m0_6, m0_9, m0_10, m0_11, m0_14, m0_15, m0_16, m0_19, m0_20, m0_21, m0_24, m0_25, m0_26, m0_29, m0_30, m0_31, m0_34, m0_35, m0_36, m0_39, m0_40, m0_41, m0_44, m0_45, m0_46, m0_49, m0_50, m0_51, m0_54, m0_55, m0_56, m0_59, m0_60, m0_62, m0_65, m0_66, m0_68, m0_71, m0_72, m0_74, m0_77, m0_78, m0_80, m0_83, m0_84, m0_86, m0_89, m0_90, m0_92, m0_95, m0_96, m0_98, m0_101, m0_102, m0_104, m0_107, m0_108, m0_110, m0_113, m0_114, m0_116, m0_119, m0_120, m0_128, m0_129, m0_137, m0_138, m0_146, m0_147, m0_154, m0_155, m0_162, m0_163, m0_170, m0_171, m0_179, m0_180, m0_187, m0_188, m0_195, m0_196, m0_203, m0_204, m0_211, m0_212, m0_219, m0_220, m0_227, m0_228, m0_235, m0_236, m0_243, m0_244, m0_251, m0_252, m0_259, m0_260, m0_267, m0_268, m0_275, m0_276, m0_283, m0_284, m0_292, m0_293, m0_301, m0_302, m0_310, m0_311, m0_319, m0_320, m0_328, m0_329, m0_336, m0_337, m0_344, m0_345, m0_352, m0_353, m0_360, m0_361, m0_368, m0_369, m0_376, m0_377, m0_384, m0_385, m0_393, m0_394, m0_402, m0_403u, m0_404, m0_405, m0_407, m0_410, m0_412i, m0_413, m0_414, m0_416, m0_419, m0_421i, m0_422, m0_423, m0_424, m0_427, nb0, nb1, ou_a, Option.toList_some, Option.toList_none, List.nil_append, List.cons_append]
  exact own_rest _ _ _ (by simp [ou_a, S0]) (by simp [ou_a, S0]) (by simp [ou_a, S0]) (by simp [ou_a, S0]) (by simp [ou_a, S0]) (by simp [ou_a, S0]) (by simp [ou_a, S0]) (by simp [ou_a, S0]) (by simp [ou_a, S0]) (by simp [ou_a, S0]) (by simp [ou_a, S0]) (by simp [ou_a, S0]) (by simp [ou_a, S0]) (by simp [ou_a, S0]) (by simp [ou_a, S0]) (by simp [ou_a, S0]) (by simp [ou_a, S0]) (by simp [ou_a, S0]) (by simp [ou_a, S0]) (by simp [ou_a, S0]) (by simp [ou_a, S0]) (by simp [ou_a, S0]) (by simp [ou_a, S0]) (by simp [ou_a, S0]) (by simp [ou_a, S0]) (by simp [ou_a, S0]) (by simp [ou_a, S0]) (by simp [ou_a, S0]) (by simp [ou_a, S0]) (by simp [ou_a, S0]) (by simp [ou_a, S0]) (by simp [ou_a, S0]) (by simp [ou_a, S0]) (by simp [ou_a, S0]) (by simp [ou_a, S0]) (by simp [ou_a, S0]) (by simp [ou_a, S0]) (by simp [ou_a, S0]) (by simp [ou_a, S0]) (by simp [ou_a, S0]) (by simp [ou_a, S0]) (by simp [ou_a, S0]) (by simp [ou_a, S0]) (by simp [ou_a, S0]) (by simp [ou_a, S0]) (by simp [ou_a, S0]) (by simp [ou_a, S0]) (by simp [ou_a, S0]) (by simp [ou_a, S0]) (by simp [ou_a, S0]) (by simp [ou_a, S0]) (by simp [ou_a, S0]) (by simp [ou_a, S0]) (by simp [ou_a, S0]) (by simp [ou_a, own_gt a1 (by decide : (0 : Int32) < 8)]) _ hQ
set_option maxRecDepth 1000000 in
set_option maxHeartbeats 20000000 in
theorem own_law (i0 : Int32) (i1 : Int64) : W tables_1 dn 0 x code ret 0 (entry [.int i0, .long i1] maxLocals) [] [] (fun v H1 => v = some (.int 1) ∧ H1.length - ([] : AHeap).length ≤ 80 ∧ tot tables_1 H1 - tot tables_1 [] ≤ 18496) := by
  show M42 0 [.val (.int i0), .val (.long i1), .second, .unset, .unset, .unset, .unset, .unset, .unset, .unset, .unset, .unset, .unset, .unset, .unset, .unset, .unset, .unset] [] [] _
  exact own_gen _ _ own_fin
theorem own_dn : ∀ f' l', dnOf dn x = some (f', l') → f' ≤ room_1.frames ∧ l' ≤ room_1.locals := by
  have h : dnOf dn x = some (8, 120) := by decide +kernel
  intro f' l' q; rw [h] at q; cases q; decide
theorem own_pn : Jvm.plainName x.cls = true := by first | (simp [Jvm.plainName, overriddenIn, x]; done) | decide +kernel
theorem own_rm (l : Launch) (Z : State) (a0 : Array Value) (hw : ∀ d ∈ tables_1, d.before a0 Z = true) (i0 : Int32) (i1 : Int64) (h : Heap) :
    MetFree l x (head1 (Jvm.Cond.code x code maxLocals ret :: tables_1) room_1) (fun a U => a = #[.int i0, .long i1] ∧ Z.Warmed39 U.vm ∧ U.heap = h) (fun _ _ _ _ _ => True) (fun _ U o U' => ∃ w L, o = .returned w ∧ (w = some (.int 1) ∧ Fr h.size L) ∧ FrameEnd U o U' L 80 18496) :=
  law_of (as := [.int i0, .long i1]) (mx := maxLocals) (f := room_1.frames) (lc := room_1.locals) hw l tables_1 own_pn (by show 3 ≤ 18; omega) (own_law i0 i1) own_dn (Sim.empty Z tables_1 h)
set_option maxRecDepth 65536 in
set_option maxHeartbeats 40000000 in
theorem comes_1 {Post : Tables → Env → Array Value → State → Outcome → State → Prop} (hpost : ∀ tb e args s v u, (limb_1_1.after args s (.returned v) u = true ∧ limb_1_2.after args s (.returned v) u = true ∧ True) → FrameEnd s (.returned v) u (Jvm.fieldLocs frame_1_writes args s ++ Jvm.arrayLocs frame_1_arrays args s ++ Jvm.staticLocs frame_1_statics s) 80 18496 → Post tb e args s (.returned v) u) :
    ArmFor flags0 classFile x code maxLocals ret World_1 tables_1 room_1 Calls_1 rest_1 Pre_1 Post := by
  intro l hfl _ _ p e ha hc hk s m args below hf hA hF happ hP
  obtain ⟨hcalls, hrest, hpre⟩ := hP
  obtain ⟨-, -, -, hnamed, -, -, -, hat⟩ := (Spec.applies_iff hf).mp happ
  obtain ⟨hg, hn⟩ := and_e (Cond.before_iff.mp (show (Jvm.Cond.and given_1 narrow_1).before args s = true from hpre))
  obtain ⟨g0, t0⟩ := and_e hg
  obtain ⟨q0, t1⟩ := and_e t0
  have q1 := t1
  obtain ⟨w0, w1, rfl⟩ : ∃ w0 w1 : Value, args = #[w0, w1] := by
    have hs : args.size = 2 := by simpa [Cond.value, given_1] using g0
    obtain ⟨L⟩ := args
    match L, hs with
    | [w0, w1], _ => exact ⟨w0, w1, rfl⟩
  have hw := fun d (hd : d ∈ tables_1) => atoms_spec (ws := Jvm.Cond.code x code maxLocals ret :: tables_1) hat d (List.mem_cons_of_mem _ hd)
  obtain ⟨i0, ei0⟩ := is_v q0
  obtain rfl : w0 = (.int i0) := Option.some.inj ei0
  obtain ⟨i1, ei1⟩ := isL_v q1
  obtain rfl : w1 = (.long i1) := Option.some.inj ei1
  obtain ⟨n, o, h1, h2, h3, _, L, rfl, ⟨rfl, N⟩, hq⟩ := own_rm l s _ hw i0 i1 s.heap p e ha hc hk s m _ below hf ((Spec.applies_iff_loose hf).mp happ).1 ⟨rfl, State.Warmed39.refl s, rfl⟩ trivial
  exact ⟨n, _, h1, h2, h3, hpost _ _ _ _ _ _ ⟨Cond.after_iff.mpr rfl, Cond.after_iff.mpr (eq_i res_at (Term.int_eval (1)) rfl), trivial⟩ ⟨hq.1, hq.2.1, (hq.2.2.sift fun y hy => Or.inr (N y hy)).mono (by decide) (by decide)⟩⟩
theorem main_1_1 : Claimed_1_1 := comes_1 fun _ _ _ _ _ _ h hF => ⟨h.1, hF⟩
theorem main_1_2 : Claimed_1_2 := comes_1 fun _ _ _ _ _ _ h hF => ⟨h.2.1, hF⟩
end Jvm.Pilot.@@N@@
namespace Jvm.Pilot.@@N@@
open Jvm Jvm.ClassFile Sem Op Lib Jvm.Free Jvm.Stand Jvm.Pilot.@@N@@.Jvm.D
/-! MADE BY PROGRAM (witnessworld.py) out of the Statement's table words and the real class files: 15 classes; the members and pool entries that the words name. The judged class is class 1, her method 2. -/
namespace start1
open Jvm.ClassFile
def u (s : String) : CpInfo := .utf8 (stringToUtf16 s)
/-- a pool by its gaps: so many unusable entries, then the entry; so many at the end -/
def gap : Nat → List CpInfo → List CpInfo
  | 0, r => r
  | n + 1, r => .unusable :: gap n r
def poolList (es : List (Nat × CpInfo)) (last : Nat) : List CpInfo := es.foldr (fun e r => gap e.1 (e.2 :: r)) (gap last [])
def pool (es : List (Nat × CpInfo)) (last : Nat) : Array CpInfo := ⟨poolList es last⟩
def fileOf (pool : Array CpInfo) (this : Nat) (attrs : Array Attribute := #[]) (ms : Array MethodInfo := #[]) (fl : Nat := 33) (sup : Nat := 0) (ifs : Array Nat := #[]) (fds : Array FieldInfo := #[]) : ClassFile where
  minorVersion := 0
  majorVersion := 65
  constantPool := pool
  accessFlags := fl
  thisClass := this
  superClass := sup
  interfaces := ifs
  fields := fds
  methods := ms
  attributes := attrs
def plain (name : String) (sup : Option ClassId) : Class where
  name := name
  kind := .ordinary
  loader := none
  accessFlags := 33
  super := sup
  interfaces := #[]
  cf := none
  fields := #[]
  methods := #[]
  instanceTypes := #[]
  staticTypes := #[]
  resolved := #[]
  callSites := []
  init := .initialized
  statics := none
  mirror := none

def pool0 : Array CpInfo := pool [(5, u "<init>"), (0, u "()V"), (1, .class_ 10), (1, u "java/lang/Object")] 113

def k0c0 : Code := { maxStack := 0, maxLocals := 1, code := object_method_1_code, exceptionTable := #[], attributes := #[] }
def k0m0 : Method := { name := "<init>", desc := "()V", sig := { parameters := [], returnType := none }, accessFlags := 1, code := some k0c0 }
/-- java/lang/Object -/
def k0 : Class := { plain "java/lang/Object" none with
  accessFlags := 33
  interfaces := #[]
  cf := some (fileOf pool0 8 #[] #[{ accessFlags := 1, nameIndex := 5, descriptorIndex := 6, attributes := #[] }] 33 0 #[] #[])
  fields := #[]
  methods := #[k0m0]
  instanceTypes := #[]
  staticTypes := #[]
  resolved := Array.replicate 124 none
  statics := none }

def pool1 : Array CpInfo := pool [(2, .class_ 4), (1, u "java/lang/Object"), (0, u "<init>"), (0, u "()V"), (0, .class_ 8), (0, u "MacroAssembler"), (0, .methodref 7 10), (0, .nameAndType 5 11), (0, u "(I)V"), (0, .long 5524552), (1, .methodref 7 15), (0, .nameAndType 16 17), (0, u "feedLong"), (0, u "(J)I"), (0, .methodref 7 19), (0, .nameAndType 20 21), (0, u "assemble"), (0, u "()I"), (0, .long 255), (1, .methodref 25 26), (0, .class_ 27), (0, .nameAndType 28 29), (0, u "MacroAssemblerL2"), (0, u "okc"), (0, u "(I)Z"), (0, .methodref 7 31), (0, .nameAndType 32 21), (0, u "sourceLength"), (0, .methodref 7 34), (0, .nameAndType 35 21), (0, u "status"), (0, .methodref 7 37), (0, .nameAndType 38 21), (0, u "imageLength"), (0, .methodref 7 40), (0, .nameAndType 41 42), (0, u "imageByte"), (0, u "(I)I"), (3, u "law"), (0, u "(IJ)Z")] 2

def k1m0 : Method := { name := "<init>", desc := "()V", sig := { parameters := [], returnType := none }, accessFlags := 1, code := none }
def k1c1 : Code := { maxStack := 2, maxLocals := 1, code := method_2_code, exceptionTable := #[], attributes := #[] }
def k1m1 : Method := { name := "okc", desc := "(I)Z", sig := { parameters := [.int], returnType := some .boolean }, accessFlags := 10, code := some k1c1 }
def k1c2 : Code := { maxStack := 4, maxLocals := 18, code := code, exceptionTable := #[], attributes := #[] }
def k1m2 : Method := { name := "law", desc := "(IJ)Z", sig := { parameters := [.int, .long], returnType := some .boolean }, accessFlags := 9, code := some k1c2 }
/-- MacroAssemblerL2 -/
def k1 : Class := { plain "MacroAssemblerL2" (some 0) with
  accessFlags := 49
  interfaces := #[]
  cf := some (fileOf pool1 25 #[] #[{ accessFlags := 1, nameIndex := 5, descriptorIndex := 6, attributes := #[] }, { accessFlags := 10, nameIndex := 28, descriptorIndex := 29, attributes := #[] }, { accessFlags := 9, nameIndex := 46, descriptorIndex := 47, attributes := #[] }] 49 2 #[] #[])
  fields := #[]
  methods := #[k1m0, k1m1, k1m2]
  instanceTypes := #[]
  staticTypes := #[]
  resolved := Array.replicate 50 none
  statics := none }

def pool2 : Array CpInfo := pool [(1, .methodref 2 3), (0, .class_ 4), (0, .nameAndType 5 6), (0, u "java/lang/Object"), (0, u "<init>"), (0, u "()V"), (0, .fieldref 8 9), (0, .class_ 10), (0, .nameAndType 11 12), (0, u "MacroAssembler"), (0, u "T_IDENT"), (0, u "I"), (0, .fieldref 8 14), (0, .nameAndType 15 12), (0, u "T_NUM"), (0, .fieldref 8 17), (0, .nameAndType 18 12), (0, u "B_IF"), (0, .fieldref 8 20), (0, .nameAndType 21 12), (0, u "B_REPT"), (0, .fieldref 8 23), (0, .nameAndType 24 12), (0, u "B_CALL"), (0, .fieldref 8 26), (0, .nameAndType 27 12), (0, u "M_NORMAL"), (0, .fieldref 8 29), (0, .nameAndType 30 12), (0, u "M_DEFINING"), (0, .fieldref 8 32), (0, .nameAndType 33 12), (0, u "M_SKIPPING"), (0, .fieldref 8 35), (0, .nameAndType 36 12), (0, u "K_FALSE"), (0, .fieldref 8 38), (0, .nameAndType 39 12), (0, u "K_ELSEPART"), (0, .fieldref 8 41), (0, .nameAndType 42 12), (0, u "K_REPT0"), (0, .fieldref 8 44), (0, .nameAndType 45 12), (0, u "KW_DB"), (0, .fieldref 8 47), (0, .nameAndType 48 12), (0, u "KW_EQU"), (0, .fieldref 8 50), (0, .nameAndType 51 12), (0, u "KW_MACRO"), (0, .fieldref 8 53), (0, .nameAndType 54 12), (0, u "KW_ENDM"), (0, .fieldref 8 56), (0, .nameAndType 57 12), (0, u "KW_IF"), (0, .fieldref 8 59), (0, .nameAndType 60 12), (0, u "KW_ELSE"), (0, .fieldref 8 62), (0, .nameAndType 63 12), (0, u "KW_ENDIF"), (0, .fieldref 8 65), (0, .nameAndType 66 12), (0, u "KW_REPT"), (0, .fieldref 8 68), (0, .nameAndType 69 12), (0, u "KW_ENDR"), (0, .fieldref 8 71), (0, .nameAndType 72 12), (0, u "ARG_SLOT"), (0, .fieldref 8 74), (0, .nameAndType 75 76), (0, u "src"), (0, u "[C"), (0, .fieldref 8 78), (0, .nameAndType 79 80), (0, u "lineStart"), (0, u "[I"), (0, .fieldref 8 82), (0, .nameAndType 83 80), (0, u "lineEnd"), (0, .fieldref 8 85), (0, .nameAndType 86 80), (0, u "img"), (0, .fieldref 8 88), (0, .nameAndType 89 90), (0, u "symCode"), (0, u "[J"), (0, .fieldref 8 92), (0, .nameAndType 93 80), (0, u "symVal"), (0, .fieldref 8 95), (0, .nameAndType 96 76), (0, u "lst"), (0, .fieldref 8 98), (0, .nameAndType 99 76), (0, u "dig"), (0, .fieldref 8 101), (0, .nameAndType 102 90), (0, u "macCode"), (0, .fieldref 8 104), (0, .nameAndType 105 80), (0, u "macStart"), (0, .fieldref 8 107), (0, .nameAndType 108 80), (0, u "macEnd"), (0, .fieldref 8 110), (0, .nameAndType 111 80), (0, u "bType"), (0, .fieldref 8 113), (0, .nameAndType 114 115), (0, u "bElse"), (0, u "[Z"), (0, .fieldref 8 117), (0, .nameAndType 118 80), (0, u "bRemain"), (0, .fieldref 8 120), (0, .nameAndType 121 80), (0, u "bRetMac"), (0, .fieldref 8 123), (0, .nameAndType 124 80), (0, u "bRetLine"), (0, .fieldref 8 126), (0, .nameAndType 127 80), (0, u "bK"), (0, .fieldref 8 129), (0, .nameAndType 130 80), (0, u "bErr"), (0, .fieldref 8 132), (0, .nameAndType 133 80), (0, u "bArgN"), (0, .fieldref 8 135), (0, .nameAndType 136 80), (0, u "argLen"), (0, .fieldref 8 138), (0, .nameAndType 139 76), (0, u "argCh"), (0, .fieldref 8 141), (0, .nameAndType 142 76), (0, u "ln"), (0, .fieldref 8 144), (0, .nameAndType 145 80), (0, u "tkType"), (0, .fieldref 8 147), (0, .nameAndType 148 80), (0, u "tkVal"), (0, .fieldref 8 150), (0, .nameAndType 151 90), (0, u "tkCode"), (0, .fieldref 8 153), (0, .nameAndType 154 90), (0, u "exUCode"), (0, .fieldref 8 156), (0, .nameAndType 157 80), (0, u "exUCoef"), (0, .fieldref 8 159), (0, .nameAndType 160 80), (0, u "fixAddr"), (0, .fieldref 8 162), (0, .nameAndType 163 80), (0, u "fixErr"), (0, .fieldref 8 165), (0, .nameAndType 166 80), (0, u "fixConst"), (0, .fieldref 8 168), (0, .nameAndType 169 80), (0, u "fixUN"), (0, .fieldref 8 171), (0, .nameAndType 172 115), (0, u "fixDoom"), (0, .fieldref 8 174), (0, .nameAndType 175 90), (0, u "fixUCode"), (0, .fieldref 8 177), (0, .nameAndType 178 80), (0, u "fixUCoef"), (0, .fieldref 8 180), (0, .nameAndType 181 12), (0, u "cap"), (0, .methodref 8 183), (0, .nameAndType 184 185), (0, u "validChar"), (0, u "(I)Z"), (0, .fieldref 8 187), (0, .nameAndType 188 12), (0, u "srcLen"), (0, .methodref 8 190), (0, .nameAndType 191 6), (0, u "resetResult"), (0, .methodref 8 193), (0, .nameAndType 194 195), (0, u "byteOf"), (0, u "(JI)I"), (0, .methodref 8 197), (0, .nameAndType 198 6), (0, u "startRun"), (0, .fieldref 8 200), (0, .nameAndType 201 202), (0, u "err"), (0, u "Z"), (0, .fieldref 8 204), (0, .nameAndType 205 202), (0, u "done"), (0, .methodref 8 207), (0, .nameAndType 208 6), (0, u "step"), (0, .fieldref 8 210), (0, .nameAndType 211 12), (0, u "nLines"), (0, .fieldref 8 213), (0, .nameAndType 214 12), (0, u "hLine"), (3, .methodref 8 219), (0, .nameAndType 220 6), (0, u "finish"), (0, .fieldref 8 222), (0, .nameAndType 223 12), (0, u "status"), (0, .fieldref 8 225), (0, .nameAndType 226 12), (0, u "errLine"), (0, .fieldref 8 228), (0, .nameAndType 229 12), (0, u "imgLen"), (0, .fieldref 8 231), (0, .nameAndType 232 12), (0, u "symN"), (0, .fieldref 8 234), (0, .nameAndType 235 12), (0, u "expCount"), (0, .fieldref 8 237), (0, .nameAndType 238 12), (0, u "lstLen"), (0, .fieldref 8 240), (0, .nameAndType 241 12), (0, u "loc"), (0, .fieldref 8 243), (0, .nameAndType 244 12), (0, u "counter"), (0, .methodref 8 246), (0, .nameAndType 247 6), (0, u "buildListing"), (0, .methodref 8 249), (0, .nameAndType 250 251), (0, u "imageLength"), (0, u "()I"), (3, .methodref 8 256), (0, .nameAndType 257 258), (0, u "nameLen"), (0, u "(J)I"), (0, .methodref 8 260), (0, .nameAndType 261 262), (0, u "nameChar"), (0, u "(JII)I"), (3, .long 255), (1, .methodref 8 269), (0, .nameAndType 270 185), (0, u "identStart"), (3, .fieldref 8 275), (0, .nameAndType 276 12), (0, u "lnLen"), (0, .methodref 8 278), (0, .nameAndType 279 185), (0, u "identChar"), (0, .long 18446744073709551615), (1, .long 128), (1, .methodref 8 285), (0, .nameAndType 286 287), (0, u "identEnd"), (0, u "(I)I"), (0, .methodref 8 289), (0, .nameAndType 290 291), (0, u "pack"), (0, u "(II)J"), (0, .methodref 8 293), (0, .nameAndType 294 287), (0, u "skipSpaces"), (0, .methodref 8 296), (0, .nameAndType 297 298), (0, u "wordAt"), (0, u "(I)J"), (0, .long 127), (1, .methodref 8 302), (0, .nameAndType 303 304), (0, u "word"), (0, u "(IIIII)J"), (0, .long 18446744073709551614), (1, .methodref 8 308), (0, .nameAndType 309 298), (0, u "kwCode"), (0, .fieldref 8 311), (0, .nameAndType 312 12), (0, u "macN"), (2, u "digFrom"), (0, .fieldref 8 317), (0, .nameAndType 318 12), (0, u "sp"), (0, .fieldref 8 320), (0, .nameAndType 321 12), (0, u "reads"), (0, .fieldref 8 323), (0, .nameAndType 324 12), (0, u "fixN"), (0, .fieldref 8 326), (0, .nameAndType 327 12), (0, u "mode"), (0, .fieldref 8 329), (0, .nameAndType 330 12), (0, u "skipKind"), (0, .fieldref 8 332), (0, .nameAndType 333 12), (0, u "skipDepth"), (0, .fieldref 8 335), (0, .nameAndType 336 12), (0, u "defMac"), (0, .methodref 8 338), (0, .nameAndType 339 6), (0, u "splitLines"), (0, .methodref 8 341), (0, .nameAndType 342 343), (0, u "setInput"), (0, u "(II)V"), (0, .fieldref 8 345), (0, .nameAndType 346 12), (0, u "curMac"), (0, .fieldref 8 348), (0, .nameAndType 349 12), (0, u "curLine"), (0, .fieldref 8 351), (0, .nameAndType 352 12), (0, u "curEnd"), (0, .methodref 8 354), (0, .nameAndType 355 6), (0, u "exhausted"), (3, .methodref 8 360), (0, .nameAndType 361 362), (0, u "copyLine"), (0, u "(I)V"), (9, .methodref 8 373), (0, .nameAndType 374 6), (0, u "normalLine"), (19, .methodref 8 395), (0, .nameAndType 396 258), (0, u "kwIndex"), (0, .methodref 8 398), (0, .nameAndType 399 6), (0, u "findLabel"), (0, .fieldref 8 401), (0, .nameAndType 402 12), (0, u "restAt"), (0, .methodref 8 404), (0, .nameAndType 405 6), (0, u "defineLabel"), (6, .methodref 8 413), (0, .nameAndType 414 362), (0, u "statement"), (6, .fieldref 8 422), (0, .nameAndType 423 202), (0, u "hasLabel"), (0, .fieldref 8 425), (0, .nameAndType 426 427), (0, u "labelCode"), (0, u "J"), (7, .methodref 8 436), (0, .nameAndType 437 362), (0, u "tokenize"), (0, .methodref 8 439), (0, .nameAndType 440 362), (0, u "formSimple"), (9, .fieldref 8 451), (0, .nameAndType 452 12), (0, u "tkN"), (3, .methodref 8 457), (0, .nameAndType 458 362), (0, u "emit"), (5, u "exUnknown"), (2, u "exConst"), (35, .methodref 8 504), (0, .nameAndType 505 506), (0, u "addTok"), (0, u "(IIJ)V"), (5, u "exUN"), (2, u "exDoom"), (3, .methodref 8 520), (0, .nameAndType 521 362), (0, u "lstPut"), (0, .methodref 8 523), (0, .nameAndType 524 525), (0, u "putName"), (0, u "(J)V"), (0, .methodref 8 527), (0, .nameAndType 528 362), (0, u "putKw"), (3, .methodref 8 533), (0, .nameAndType 534 287), (0, u "listOne"), (0, u "STATUS_NONE"), (2, u "STATUS_OK"), (1, u "STATUS_ERROR"), (1, u "SOURCE_CAP"), (1, u "MAX_SYMBOLS"), (1, u "MAX_NAME"), (1, u "MAX_MACROS"), (0, u "MAX_ARGS"), (1, u "MAX_DEPTH"), (0, u "MAX_READS"), (1, u "MAX_SUBST_LINE"), (1, u "MAX_REPT"), (0, u "OP_NOP"), (0, u "OP_HLT"), (0, u "OP_INC"), (0, u "OP_DEC"), (1, u "CODE_LDA"), (0, u "CODE_STA"), (0, u "CODE_ADD"), (0, u "CODE_SUB"), (0, u "CODE_JMP"), (1, u "CODE_JZ"), (1, u "SHORT_BASE"), (0, u "LONG_BASE"), (14, u "feedLong"), (1, u "assemble"), (1, u "sourceLength"), (0, u "imageByte")] 7

def k2c0 : Code := { maxStack := 2, maxLocals := 3, code := prog_1_method_1_code, exceptionTable := #[], attributes := #[] }
def k2m0 : Method := { name := "<init>", desc := "(I)V", sig := { parameters := [.int], returnType := none }, accessFlags := 1, code := some k2c0 }
def k2c1 : Code := { maxStack := 6, maxLocals := 6, code := prog_1_method_3_code, exceptionTable := #[], attributes := #[] }
def k2m1 : Method := { name := "feedLong", desc := "(J)I", sig := { parameters := [.long], returnType := some .int }, accessFlags := 1, code := some k2c1 }
def k2c2 : Code := { maxStack := 3, maxLocals := 2, code := prog_1_method_5_code, exceptionTable := #[], attributes := #[] }
def k2m2 : Method := { name := "assemble", desc := "()I", sig := { parameters := [], returnType := some .int }, accessFlags := 1, code := some k2c2 }
def k2c3 : Code := { maxStack := 1, maxLocals := 1, code := prog_1_method_6_code, exceptionTable := #[], attributes := #[] }
def k2m3 : Method := { name := "status", desc := "()I", sig := { parameters := [], returnType := some .int }, accessFlags := 1, code := some k2c3 }
def k2c4 : Code := { maxStack := 1, maxLocals := 1, code := prog_1_method_8_code, exceptionTable := #[], attributes := #[] }
def k2m4 : Method := { name := "sourceLength", desc := "()I", sig := { parameters := [], returnType := some .int }, accessFlags := 1, code := some k2c4 }
def k2c5 : Code := { maxStack := 2, maxLocals := 1, code := prog_1_method_9_code, exceptionTable := #[], attributes := #[] }
def k2m5 : Method := { name := "imageLength", desc := "()I", sig := { parameters := [], returnType := some .int }, accessFlags := 1, code := some k2c5 }
def k2c6 : Code := { maxStack := 2, maxLocals := 2, code := prog_1_method_10_code, exceptionTable := #[], attributes := #[] }
def k2m6 : Method := { name := "imageByte", desc := "(I)I", sig := { parameters := [.int], returnType := some .int }, accessFlags := 1, code := some k2c6 }
def k2c7 : Code := { maxStack := 2, maxLocals := 2, code := prog_1_method_18_code, exceptionTable := #[], attributes := #[] }
def k2m7 : Method := { name := "validChar", desc := "(I)Z", sig := { parameters := [.int], returnType := some .boolean }, accessFlags := 2, code := some k2c7 }
def k2c8 : Code := { maxStack := 4, maxLocals := 4, code := prog_1_method_19_code, exceptionTable := #[], attributes := #[] }
def k2m8 : Method := { name := "byteOf", desc := "(JI)I", sig := { parameters := [.long, .int], returnType := some .int }, accessFlags := 2, code := some k2c8 }
def k2c9 : Code := { maxStack := 2, maxLocals := 1, code := prog_1_method_20_code, exceptionTable := #[], attributes := #[] }
def k2m9 : Method := { name := "resetResult", desc := "()V", sig := { parameters := [], returnType := none }, accessFlags := 2, code := some k2c9 }
def k2c10 : Code := { maxStack := 2, maxLocals := 2, code := prog_1_method_23_code, exceptionTable := #[], attributes := #[] }
def k2m10 : Method := { name := "identStart", desc := "(I)Z", sig := { parameters := [.int], returnType := some .boolean }, accessFlags := 2, code := some k2c10 }
def k2c11 : Code := { maxStack := 2, maxLocals := 2, code := prog_1_method_24_code, exceptionTable := #[], attributes := #[] }
def k2m11 : Method := { name := "identChar", desc := "(I)Z", sig := { parameters := [.int], returnType := some .boolean }, accessFlags := 2, code := some k2c11 }
def k2c12 : Code := { maxStack := 2, maxLocals := 4, code := prog_1_method_25_code, exceptionTable := #[], attributes := #[] }
def k2m12 : Method := { name := "skipSpaces", desc := "(I)I", sig := { parameters := [.int], returnType := some .int }, accessFlags := 2, code := some k2c12 }
def k2c13 : Code := { maxStack := 3, maxLocals := 4, code := prog_1_method_26_code, exceptionTable := #[], attributes := #[] }
def k2m13 : Method := { name := "identEnd", desc := "(I)I", sig := { parameters := [.int], returnType := some .int }, accessFlags := 2, code := some k2c13 }
def k2c14 : Code := { maxStack := 4, maxLocals := 6, code := prog_1_method_27_code, exceptionTable := #[], attributes := #[] }
def k2m14 : Method := { name := "pack", desc := "(II)J", sig := { parameters := [.int, .int], returnType := some .long }, accessFlags := 2, code := some k2c14 }
def k2c15 : Code := { maxStack := 3, maxLocals := 3, code := prog_1_method_28_code, exceptionTable := #[], attributes := #[] }
def k2m15 : Method := { name := "wordAt", desc := "(I)J", sig := { parameters := [.int], returnType := some .long }, accessFlags := 2, code := some k2c15 }
def k2c16 : Code := { maxStack := 4, maxLocals := 7, code := prog_1_method_30_code, exceptionTable := #[], attributes := #[] }
def k2m16 : Method := { name := "nameLen", desc := "(J)I", sig := { parameters := [.long], returnType := some .int }, accessFlags := 2, code := some k2c16 }
def k2c17 : Code := { maxStack := 5, maxLocals := 5, code := prog_1_method_31_code, exceptionTable := #[], attributes := #[] }
def k2m17 : Method := { name := "nameChar", desc := "(JII)I", sig := { parameters := [.long, .int, .int], returnType := some .int }, accessFlags := 2, code := some k2c17 }
def k2c18 : Code := { maxStack := 4, maxLocals := 8, code := prog_1_method_32_code, exceptionTable := #[], attributes := #[] }
def k2m18 : Method := { name := "word", desc := "(IIIII)J", sig := { parameters := [.int, .int, .int, .int, .int], returnType := some .long }, accessFlags := 2, code := some k2c18 }
def k2c19 : Code := { maxStack := 6, maxLocals := 2, code := prog_1_method_33_code, exceptionTable := #[], attributes := #[] }
def k2m19 : Method := { name := "kwCode", desc := "(I)J", sig := { parameters := [.int], returnType := some .long }, accessFlags := 2, code := some k2c19 }
def k2c20 : Code := { maxStack := 4, maxLocals := 4, code := prog_1_method_34_code, exceptionTable := #[], attributes := #[] }
def k2m20 : Method := { name := "kwIndex", desc := "(J)I", sig := { parameters := [.long], returnType := some .int }, accessFlags := 2, code := some k2c20 }
def k2c21 : Code := { maxStack := 3, maxLocals := 1, code := prog_1_method_38_code, exceptionTable := #[], attributes := #[] }
def k2m21 : Method := { name := "startRun", desc := "()V", sig := { parameters := [], returnType := none }, accessFlags := 2, code := some k2c21 }
def k2c22 : Code := { maxStack := 3, maxLocals := 3, code := prog_1_method_39_code, exceptionTable := #[], attributes := #[] }
def k2m22 : Method := { name := "splitLines", desc := "()V", sig := { parameters := [], returnType := none }, accessFlags := 2, code := some k2c22 }
def k2c23 : Code := { maxStack := 3, maxLocals := 3, code := prog_1_method_40_code, exceptionTable := #[], attributes := #[] }
def k2m23 : Method := { name := "setInput", desc := "(II)V", sig := { parameters := [.int, .int], returnType := none }, accessFlags := 2, code := some k2c23 }
def k2c24 : Code := { maxStack := 3, maxLocals := 2, code := prog_1_method_41_code, exceptionTable := #[], attributes := #[] }
def k2m24 : Method := { name := "step", desc := "()V", sig := { parameters := [], returnType := none }, accessFlags := 2, code := some k2c24 }
def k2c25 : Code := { maxStack := 4, maxLocals := 1, code := prog_1_method_42_code, exceptionTable := #[], attributes := #[] }
def k2m25 : Method := { name := "exhausted", desc := "()V", sig := { parameters := [], returnType := none }, accessFlags := 2, code := some k2c25 }
def k2c26 : Code := { maxStack := 4, maxLocals := 3, code := prog_1_method_45_code, exceptionTable := #[], attributes := #[] }
def k2m26 : Method := { name := "copyLine", desc := "(I)V", sig := { parameters := [.int], returnType := none }, accessFlags := 2, code := some k2c26 }
def k2c27 : Code := { maxStack := 4, maxLocals := 10, code := prog_1_method_53_code, exceptionTable := #[], attributes := #[] }
def k2m27 : Method := { name := "normalLine", desc := "()V", sig := { parameters := [], returnType := none }, accessFlags := 2, code := some k2c27 }
def k2c28 : Code := { maxStack := 4, maxLocals := 4, code := prog_1_method_54_code, exceptionTable := #[], attributes := #[] }
def k2m28 : Method := { name := "findLabel", desc := "()V", sig := { parameters := [], returnType := none }, accessFlags := 2, code := some k2c28 }
def k2c29 : Code := { maxStack := 4, maxLocals := 1, code := prog_1_method_55_code, exceptionTable := #[], attributes := #[] }
def k2m29 : Method := { name := "defineLabel", desc := "()V", sig := { parameters := [], returnType := none }, accessFlags := 2, code := some k2c29 }
def k2c30 : Code := { maxStack := 4, maxLocals := 2, code := prog_1_method_57_code, exceptionTable := #[], attributes := #[] }
def k2m30 : Method := { name := "emit", desc := "(I)V", sig := { parameters := [.int], returnType := none }, accessFlags := 2, code := some k2c30 }
def k2c31 : Code := { maxStack := 3, maxLocals := 2, code := prog_1_method_58_code, exceptionTable := #[], attributes := #[] }
def k2m31 : Method := { name := "statement", desc := "(I)V", sig := { parameters := [.int], returnType := none }, accessFlags := 2, code := some k2c31 }
def k2c32 : Code := { maxStack := 2, maxLocals := 2, code := prog_1_method_61_code, exceptionTable := #[], attributes := #[] }
def k2m32 : Method := { name := "formSimple", desc := "(I)V", sig := { parameters := [.int], returnType := none }, accessFlags := 2, code := some k2c32 }
def k2c33 : Code := { maxStack := 5, maxLocals := 8, code := prog_1_method_75_code, exceptionTable := #[], attributes := #[] }
def k2m33 : Method := { name := "tokenize", desc := "(I)V", sig := { parameters := [.int], returnType := none }, accessFlags := 2, code := some k2c33 }
def k2c34 : Code := { maxStack := 4, maxLocals := 5, code := prog_1_method_77_code, exceptionTable := #[], attributes := #[] }
def k2m34 : Method := { name := "addTok", desc := "(IIJ)V", sig := { parameters := [.int, .int, .long], returnType := none }, accessFlags := 2, code := some k2c34 }
def k2c35 : Code := { maxStack := 4, maxLocals := 5, code := prog_1_method_82_code, exceptionTable := #[], attributes := #[] }
def k2m35 : Method := { name := "finish", desc := "()V", sig := { parameters := [], returnType := none }, accessFlags := 2, code := some k2c35 }
def k2c36 : Code := { maxStack := 3, maxLocals := 2, code := prog_1_method_83_code, exceptionTable := #[], attributes := #[] }
def k2m36 : Method := { name := "lstPut", desc := "(I)V", sig := { parameters := [.int], returnType := none }, accessFlags := 2, code := some k2c36 }
def k2c37 : Code := { maxStack := 5, maxLocals := 6, code := prog_1_method_84_code, exceptionTable := #[], attributes := #[] }
def k2m37 : Method := { name := "putName", desc := "(J)V", sig := { parameters := [.long], returnType := none }, accessFlags := 2, code := some k2c37 }
def k2c38 : Code := { maxStack := 3, maxLocals := 4, code := prog_1_method_85_code, exceptionTable := #[], attributes := #[] }
def k2m38 : Method := { name := "putKw", desc := "(I)V", sig := { parameters := [.int], returnType := none }, accessFlags := 2, code := some k2c38 }
def k2c39 : Code := { maxStack := 3, maxLocals := 3, code := prog_1_method_87_code, exceptionTable := #[], attributes := #[] }
def k2m39 : Method := { name := "buildListing", desc := "()V", sig := { parameters := [], returnType := none }, accessFlags := 2, code := some k2c39 }
def k2c40 : Code := { maxStack := 4, maxLocals := 3, code := prog_1_method_88_code, exceptionTable := #[], attributes := #[] }
def k2m40 : Method := { name := "listOne", desc := "(I)I", sig := { parameters := [.int], returnType := some .int }, accessFlags := 2, code := some k2c40 }
/-- MacroAssembler -/
def k2 : Class := { plain "MacroAssembler" (some 0) with
  accessFlags := 49
  interfaces := #[]
  cf := some (fileOf pool2 8 #[] #[{ accessFlags := 1, nameIndex := 5, descriptorIndex := 362, attributes := #[] }, { accessFlags := 1, nameIndex := 586, descriptorIndex := 258, attributes := #[] }, { accessFlags := 1, nameIndex := 588, descriptorIndex := 251, attributes := #[] }, { accessFlags := 1, nameIndex := 223, descriptorIndex := 251, attributes := #[] }, { accessFlags := 1, nameIndex := 590, descriptorIndex := 251, attributes := #[] }, { accessFlags := 1, nameIndex := 250, descriptorIndex := 251, attributes := #[] }, { accessFlags := 1, nameIndex := 591, descriptorIndex := 287, attributes := #[] }, { accessFlags := 2, nameIndex := 184, descriptorIndex := 185, attributes := #[] }, { accessFlags := 2, nameIndex := 194, descriptorIndex := 195, attributes := #[] }, { accessFlags := 2, nameIndex := 191, descriptorIndex := 6, attributes := #[] }, { accessFlags := 2, nameIndex := 270, descriptorIndex := 185, attributes := #[] }, { accessFlags := 2, nameIndex := 279, descriptorIndex := 185, attributes := #[] }, { accessFlags := 2, nameIndex := 294, descriptorIndex := 287, attributes := #[] }, { accessFlags := 2, nameIndex := 286, descriptorIndex := 287, attributes := #[] }, { accessFlags := 2, nameIndex := 290, descriptorIndex := 291, attributes := #[] }, { accessFlags := 2, nameIndex := 297, descriptorIndex := 298, attributes := #[] }, { accessFlags := 2, nameIndex := 257, descriptorIndex := 258, attributes := #[] }, { accessFlags := 2, nameIndex := 261, descriptorIndex := 262, attributes := #[] }, { accessFlags := 2, nameIndex := 303, descriptorIndex := 304, attributes := #[] }, { accessFlags := 2, nameIndex := 309, descriptorIndex := 298, attributes := #[] }, { accessFlags := 2, nameIndex := 396, descriptorIndex := 258, attributes := #[] }, { accessFlags := 2, nameIndex := 198, descriptorIndex := 6, attributes := #[] }, { accessFlags := 2, nameIndex := 339, descriptorIndex := 6, attributes := #[] }, { accessFlags := 2, nameIndex := 342, descriptorIndex := 343, attributes := #[] }, { accessFlags := 2, nameIndex := 208, descriptorIndex := 6, attributes := #[] }, { accessFlags := 2, nameIndex := 355, descriptorIndex := 6, attributes := #[] }, { accessFlags := 2, nameIndex := 361, descriptorIndex := 362, attributes := #[] }, { accessFlags := 2, nameIndex := 374, descriptorIndex := 6, attributes := #[] }, { accessFlags := 2, nameIndex := 399, descriptorIndex := 6, attributes := #[] }, { accessFlags := 2, nameIndex := 405, descriptorIndex := 6, attributes := #[] }, { accessFlags := 2, nameIndex := 458, descriptorIndex := 362, attributes := #[] }, { accessFlags := 2, nameIndex := 414, descriptorIndex := 362, attributes := #[] }, { accessFlags := 2, nameIndex := 440, descriptorIndex := 362, attributes := #[] }, { accessFlags := 2, nameIndex := 437, descriptorIndex := 362, attributes := #[] }, { accessFlags := 2, nameIndex := 505, descriptorIndex := 506, attributes := #[] }, { accessFlags := 2, nameIndex := 220, descriptorIndex := 6, attributes := #[] }, { accessFlags := 2, nameIndex := 521, descriptorIndex := 362, attributes := #[] }, { accessFlags := 2, nameIndex := 524, descriptorIndex := 525, attributes := #[] }, { accessFlags := 2, nameIndex := 528, descriptorIndex := 362, attributes := #[] }, { accessFlags := 2, nameIndex := 247, descriptorIndex := 6, attributes := #[] }, { accessFlags := 2, nameIndex := 534, descriptorIndex := 287, attributes := #[] }] 49 2 #[] #[{ accessFlags := 25, nameIndex := 535, descriptorIndex := 12, attributes := #[] }, { accessFlags := 25, nameIndex := 538, descriptorIndex := 12, attributes := #[] }, { accessFlags := 25, nameIndex := 540, descriptorIndex := 12, attributes := #[] }, { accessFlags := 25, nameIndex := 542, descriptorIndex := 12, attributes := #[] }, { accessFlags := 25, nameIndex := 544, descriptorIndex := 12, attributes := #[] }, { accessFlags := 25, nameIndex := 546, descriptorIndex := 12, attributes := #[] }, { accessFlags := 25, nameIndex := 548, descriptorIndex := 12, attributes := #[] }, { accessFlags := 25, nameIndex := 549, descriptorIndex := 12, attributes := #[] }, { accessFlags := 25, nameIndex := 551, descriptorIndex := 12, attributes := #[] }, { accessFlags := 25, nameIndex := 552, descriptorIndex := 12, attributes := #[] }, { accessFlags := 25, nameIndex := 554, descriptorIndex := 12, attributes := #[] }, { accessFlags := 25, nameIndex := 556, descriptorIndex := 12, attributes := #[] }, { accessFlags := 25, nameIndex := 557, descriptorIndex := 12, attributes := #[] }, { accessFlags := 25, nameIndex := 558, descriptorIndex := 12, attributes := #[] }, { accessFlags := 25, nameIndex := 559, descriptorIndex := 12, attributes := #[] }, { accessFlags := 25, nameIndex := 560, descriptorIndex := 12, attributes := #[] }, { accessFlags := 25, nameIndex := 562, descriptorIndex := 12, attributes := #[] }, { accessFlags := 25, nameIndex := 563, descriptorIndex := 12, attributes := #[] }, { accessFlags := 25, nameIndex := 564, descriptorIndex := 12, attributes := #[] }, { accessFlags := 25, nameIndex := 565, descriptorIndex := 12, attributes := #[] }, { accessFlags := 25, nameIndex := 566, descriptorIndex := 12, attributes := #[] }, { accessFlags := 25, nameIndex := 568, descriptorIndex := 12, attributes := #[] }, { accessFlags := 25, nameIndex := 570, descriptorIndex := 12, attributes := #[] }, { accessFlags := 25, nameIndex := 571, descriptorIndex := 12, attributes := #[] }, { accessFlags := 18, nameIndex := 11, descriptorIndex := 12, attributes := #[] }, { accessFlags := 18, nameIndex := 15, descriptorIndex := 12, attributes := #[] }, { accessFlags := 18, nameIndex := 18, descriptorIndex := 12, attributes := #[] }, { accessFlags := 18, nameIndex := 21, descriptorIndex := 12, attributes := #[] }, { accessFlags := 18, nameIndex := 24, descriptorIndex := 12, attributes := #[] }, { accessFlags := 18, nameIndex := 27, descriptorIndex := 12, attributes := #[] }, { accessFlags := 18, nameIndex := 30, descriptorIndex := 12, attributes := #[] }, { accessFlags := 18, nameIndex := 33, descriptorIndex := 12, attributes := #[] }, { accessFlags := 18, nameIndex := 36, descriptorIndex := 12, attributes := #[] }, { accessFlags := 18, nameIndex := 39, descriptorIndex := 12, attributes := #[] }, { accessFlags := 18, nameIndex := 42, descriptorIndex := 12, attributes := #[] }, { accessFlags := 18, nameIndex := 45, descriptorIndex := 12, attributes := #[] }, { accessFlags := 18, nameIndex := 48, descriptorIndex := 12, attributes := #[] }, { accessFlags := 18, nameIndex := 51, descriptorIndex := 12, attributes := #[] }, { accessFlags := 18, nameIndex := 54, descriptorIndex := 12, attributes := #[] }, { accessFlags := 18, nameIndex := 57, descriptorIndex := 12, attributes := #[] }, { accessFlags := 18, nameIndex := 60, descriptorIndex := 12, attributes := #[] }, { accessFlags := 18, nameIndex := 63, descriptorIndex := 12, attributes := #[] }, { accessFlags := 18, nameIndex := 66, descriptorIndex := 12, attributes := #[] }, { accessFlags := 18, nameIndex := 69, descriptorIndex := 12, attributes := #[] }, { accessFlags := 18, nameIndex := 72, descriptorIndex := 12, attributes := #[] }, { accessFlags := 2, nameIndex := 181, descriptorIndex := 12, attributes := #[] }, { accessFlags := 18, nameIndex := 75, descriptorIndex := 76, attributes := #[] }, { accessFlags := 2, nameIndex := 188, descriptorIndex := 12, attributes := #[] }, { accessFlags := 18, nameIndex := 79, descriptorIndex := 80, attributes := #[] }, { accessFlags := 18, nameIndex := 83, descriptorIndex := 80, attributes := #[] }, { accessFlags := 2, nameIndex := 211, descriptorIndex := 12, attributes := #[] }, { accessFlags := 2, nameIndex := 223, descriptorIndex := 12, attributes := #[] }, { accessFlags := 2, nameIndex := 226, descriptorIndex := 12, attributes := #[] }, { accessFlags := 2, nameIndex := 229, descriptorIndex := 12, attributes := #[] }, { accessFlags := 2, nameIndex := 235, descriptorIndex := 12, attributes := #[] }, { accessFlags := 18, nameIndex := 86, descriptorIndex := 80, attributes := #[] }, { accessFlags := 18, nameIndex := 89, descriptorIndex := 90, attributes := #[] }, { accessFlags := 18, nameIndex := 93, descriptorIndex := 80, attributes := #[] }, { accessFlags := 2, nameIndex := 232, descriptorIndex := 12, attributes := #[] }, { accessFlags := 18, nameIndex := 96, descriptorIndex := 76, attributes := #[] }, { accessFlags := 2, nameIndex := 238, descriptorIndex := 12, attributes := #[] }, { accessFlags := 18, nameIndex := 99, descriptorIndex := 76, attributes := #[] }, { accessFlags := 2, nameIndex := 315, descriptorIndex := 12, attributes := #[] }, { accessFlags := 18, nameIndex := 102, descriptorIndex := 90, attributes := #[] }, { accessFlags := 18, nameIndex := 105, descriptorIndex := 80, attributes := #[] }, { accessFlags := 18, nameIndex := 108, descriptorIndex := 80, attributes := #[] }, { accessFlags := 2, nameIndex := 312, descriptorIndex := 12, attributes := #[] }, { accessFlags := 2, nameIndex := 336, descriptorIndex := 12, attributes := #[] }, { accessFlags := 18, nameIndex := 111, descriptorIndex := 80, attributes := #[] }, { accessFlags := 18, nameIndex := 114, descriptorIndex := 115, attributes := #[] }, { accessFlags := 18, nameIndex := 118, descriptorIndex := 80, attributes := #[] }, { accessFlags := 18, nameIndex := 121, descriptorIndex := 80, attributes := #[] }, { accessFlags := 18, nameIndex := 124, descriptorIndex := 80, attributes := #[] }, { accessFlags := 18, nameIndex := 127, descriptorIndex := 80, attributes := #[] }, { accessFlags := 18, nameIndex := 130, descriptorIndex := 80, attributes := #[] }, { accessFlags := 18, nameIndex := 133, descriptorIndex := 80, attributes := #[] }, { accessFlags := 18, nameIndex := 136, descriptorIndex := 80, attributes := #[] }, { accessFlags := 18, nameIndex := 139, descriptorIndex := 76, attributes := #[] }, { accessFlags := 2, nameIndex := 318, descriptorIndex := 12, attributes := #[] }, { accessFlags := 2, nameIndex := 346, descriptorIndex := 12, attributes := #[] }, { accessFlags := 2, nameIndex := 349, descriptorIndex := 12, attributes := #[] }, { accessFlags := 2, nameIndex := 352, descriptorIndex := 12, attributes := #[] }, { accessFlags := 2, nameIndex := 327, descriptorIndex := 12, attributes := #[] }, { accessFlags := 2, nameIndex := 330, descriptorIndex := 12, attributes := #[] }, { accessFlags := 2, nameIndex := 333, descriptorIndex := 12, attributes := #[] }, { accessFlags := 2, nameIndex := 321, descriptorIndex := 12, attributes := #[] }, { accessFlags := 2, nameIndex := 241, descriptorIndex := 12, attributes := #[] }, { accessFlags := 2, nameIndex := 244, descriptorIndex := 12, attributes := #[] }, { accessFlags := 2, nameIndex := 214, descriptorIndex := 12, attributes := #[] }, { accessFlags := 2, nameIndex := 201, descriptorIndex := 202, attributes := #[] }, { accessFlags := 2, nameIndex := 205, descriptorIndex := 202, attributes := #[] }, { accessFlags := 18, nameIndex := 142, descriptorIndex := 76, attributes := #[] }, { accessFlags := 2, nameIndex := 276, descriptorIndex := 12, attributes := #[] }, { accessFlags := 2, nameIndex := 423, descriptorIndex := 202, attributes := #[] }, { accessFlags := 2, nameIndex := 426, descriptorIndex := 427, attributes := #[] }, { accessFlags := 2, nameIndex := 402, descriptorIndex := 12, attributes := #[] }, { accessFlags := 18, nameIndex := 145, descriptorIndex := 80, attributes := #[] }, { accessFlags := 18, nameIndex := 148, descriptorIndex := 80, attributes := #[] }, { accessFlags := 18, nameIndex := 151, descriptorIndex := 90, attributes := #[] }, { accessFlags := 2, nameIndex := 452, descriptorIndex := 12, attributes := #[] }, { accessFlags := 2, nameIndex := 467, descriptorIndex := 12, attributes := #[] }, { accessFlags := 2, nameIndex := 512, descriptorIndex := 12, attributes := #[] }, { accessFlags := 2, nameIndex := 464, descriptorIndex := 202, attributes := #[] }, { accessFlags := 2, nameIndex := 515, descriptorIndex := 202, attributes := #[] }, { accessFlags := 18, nameIndex := 154, descriptorIndex := 90, attributes := #[] }, { accessFlags := 18, nameIndex := 157, descriptorIndex := 80, attributes := #[] }, { accessFlags := 2, nameIndex := 324, descriptorIndex := 12, attributes := #[] }, { accessFlags := 18, nameIndex := 160, descriptorIndex := 80, attributes := #[] }, { accessFlags := 18, nameIndex := 163, descriptorIndex := 80, attributes := #[] }, { accessFlags := 18, nameIndex := 166, descriptorIndex := 80, attributes := #[] }, { accessFlags := 18, nameIndex := 169, descriptorIndex := 80, attributes := #[] }, { accessFlags := 18, nameIndex := 172, descriptorIndex := 115, attributes := #[] }, { accessFlags := 18, nameIndex := 175, descriptorIndex := 90, attributes := #[] }, { accessFlags := 18, nameIndex := 178, descriptorIndex := 80, attributes := #[] }])
  fields := #[{ name := "STATUS_NONE", type := .int, accessFlags := 25, slot := 0, constantValue := 0 }, { name := "STATUS_OK", type := .int, accessFlags := 25, slot := 1, constantValue := 0 }, { name := "STATUS_ERROR", type := .int, accessFlags := 25, slot := 2, constantValue := 0 }, { name := "SOURCE_CAP", type := .int, accessFlags := 25, slot := 3, constantValue := 0 }, { name := "MAX_SYMBOLS", type := .int, accessFlags := 25, slot := 4, constantValue := 0 }, { name := "MAX_NAME", type := .int, accessFlags := 25, slot := 5, constantValue := 0 }, { name := "MAX_MACROS", type := .int, accessFlags := 25, slot := 6, constantValue := 0 }, { name := "MAX_ARGS", type := .int, accessFlags := 25, slot := 7, constantValue := 0 }, { name := "MAX_DEPTH", type := .int, accessFlags := 25, slot := 8, constantValue := 0 }, { name := "MAX_READS", type := .int, accessFlags := 25, slot := 9, constantValue := 0 }, { name := "MAX_SUBST_LINE", type := .int, accessFlags := 25, slot := 10, constantValue := 0 }, { name := "MAX_REPT", type := .int, accessFlags := 25, slot := 11, constantValue := 0 }, { name := "OP_NOP", type := .int, accessFlags := 25, slot := 12, constantValue := 0 }, { name := "OP_HLT", type := .int, accessFlags := 25, slot := 13, constantValue := 0 }, { name := "OP_INC", type := .int, accessFlags := 25, slot := 14, constantValue := 0 }, { name := "OP_DEC", type := .int, accessFlags := 25, slot := 15, constantValue := 0 }, { name := "CODE_LDA", type := .int, accessFlags := 25, slot := 16, constantValue := 0 }, { name := "CODE_STA", type := .int, accessFlags := 25, slot := 17, constantValue := 0 }, { name := "CODE_ADD", type := .int, accessFlags := 25, slot := 18, constantValue := 0 }, { name := "CODE_SUB", type := .int, accessFlags := 25, slot := 19, constantValue := 0 }, { name := "CODE_JMP", type := .int, accessFlags := 25, slot := 20, constantValue := 0 }, { name := "CODE_JZ", type := .int, accessFlags := 25, slot := 21, constantValue := 0 }, { name := "SHORT_BASE", type := .int, accessFlags := 25, slot := 22, constantValue := 0 }, { name := "LONG_BASE", type := .int, accessFlags := 25, slot := 23, constantValue := 0 }, { name := "T_IDENT", type := .int, accessFlags := 18, slot := 0, constantValue := 0 }, { name := "T_NUM", type := .int, accessFlags := 18, slot := 1, constantValue := 0 }, { name := "B_IF", type := .int, accessFlags := 18, slot := 2, constantValue := 0 }, { name := "B_REPT", type := .int, accessFlags := 18, slot := 3, constantValue := 0 }, { name := "B_CALL", type := .int, accessFlags := 18, slot := 4, constantValue := 0 }, { name := "M_NORMAL", type := .int, accessFlags := 18, slot := 5, constantValue := 0 }, { name := "M_DEFINING", type := .int, accessFlags := 18, slot := 6, constantValue := 0 }, { name := "M_SKIPPING", type := .int, accessFlags := 18, slot := 7, constantValue := 0 }, { name := "K_FALSE", type := .int, accessFlags := 18, slot := 8, constantValue := 0 }, { name := "K_ELSEPART", type := .int, accessFlags := 18, slot := 9, constantValue := 0 }, { name := "K_REPT0", type := .int, accessFlags := 18, slot := 10, constantValue := 0 }, { name := "KW_DB", type := .int, accessFlags := 18, slot := 11, constantValue := 0 }, { name := "KW_EQU", type := .int, accessFlags := 18, slot := 12, constantValue := 0 }, { name := "KW_MACRO", type := .int, accessFlags := 18, slot := 13, constantValue := 0 }, { name := "KW_ENDM", type := .int, accessFlags := 18, slot := 14, constantValue := 0 }, { name := "KW_IF", type := .int, accessFlags := 18, slot := 15, constantValue := 0 }, { name := "KW_ELSE", type := .int, accessFlags := 18, slot := 16, constantValue := 0 }, { name := "KW_ENDIF", type := .int, accessFlags := 18, slot := 17, constantValue := 0 }, { name := "KW_REPT", type := .int, accessFlags := 18, slot := 18, constantValue := 0 }, { name := "KW_ENDR", type := .int, accessFlags := 18, slot := 19, constantValue := 0 }, { name := "ARG_SLOT", type := .int, accessFlags := 18, slot := 20, constantValue := 0 }, { name := "cap", type := .int, accessFlags := 2, slot := 21, constantValue := 0 }, { name := "src", type := (.array .char), accessFlags := 18, slot := 22, constantValue := 0 }, { name := "srcLen", type := .int, accessFlags := 2, slot := 23, constantValue := 0 }, { name := "lineStart", type := (.array .int), accessFlags := 18, slot := 24, constantValue := 0 }, { name := "lineEnd", type := (.array .int), accessFlags := 18, slot := 25, constantValue := 0 }, { name := "nLines", type := .int, accessFlags := 2, slot := 26, constantValue := 0 }, { name := "status", type := .int, accessFlags := 2, slot := 27, constantValue := 0 }, { name := "errLine", type := .int, accessFlags := 2, slot := 28, constantValue := 0 }, { name := "imgLen", type := .int, accessFlags := 2, slot := 29, constantValue := 0 }, { name := "expCount", type := .int, accessFlags := 2, slot := 30, constantValue := 0 }, { name := "img", type := (.array .int), accessFlags := 18, slot := 31, constantValue := 0 }, { name := "symCode", type := (.array .long), accessFlags := 18, slot := 32, constantValue := 0 }, { name := "symVal", type := (.array .int), accessFlags := 18, slot := 33, constantValue := 0 }, { name := "symN", type := .int, accessFlags := 2, slot := 34, constantValue := 0 }, { name := "lst", type := (.array .char), accessFlags := 18, slot := 35, constantValue := 0 }, { name := "lstLen", type := .int, accessFlags := 2, slot := 36, constantValue := 0 }, { name := "dig", type := (.array .char), accessFlags := 18, slot := 37, constantValue := 0 }, { name := "digFrom", type := .int, accessFlags := 2, slot := 38, constantValue := 0 }, { name := "macCode", type := (.array .long), accessFlags := 18, slot := 39, constantValue := 0 }, { name := "macStart", type := (.array .int), accessFlags := 18, slot := 40, constantValue := 0 }, { name := "macEnd", type := (.array .int), accessFlags := 18, slot := 41, constantValue := 0 }, { name := "macN", type := .int, accessFlags := 2, slot := 42, constantValue := 0 }, { name := "defMac", type := .int, accessFlags := 2, slot := 43, constantValue := 0 }, { name := "bType", type := (.array .int), accessFlags := 18, slot := 44, constantValue := 0 }, { name := "bElse", type := (.array .boolean), accessFlags := 18, slot := 45, constantValue := 0 }, { name := "bRemain", type := (.array .int), accessFlags := 18, slot := 46, constantValue := 0 }, { name := "bRetMac", type := (.array .int), accessFlags := 18, slot := 47, constantValue := 0 }, { name := "bRetLine", type := (.array .int), accessFlags := 18, slot := 48, constantValue := 0 }, { name := "bK", type := (.array .int), accessFlags := 18, slot := 49, constantValue := 0 }, { name := "bErr", type := (.array .int), accessFlags := 18, slot := 50, constantValue := 0 }, { name := "bArgN", type := (.array .int), accessFlags := 18, slot := 51, constantValue := 0 }, { name := "argLen", type := (.array .int), accessFlags := 18, slot := 52, constantValue := 0 }, { name := "argCh", type := (.array .char), accessFlags := 18, slot := 53, constantValue := 0 }, { name := "sp", type := .int, accessFlags := 2, slot := 54, constantValue := 0 }, { name := "curMac", type := .int, accessFlags := 2, slot := 55, constantValue := 0 }, { name := "curLine", type := .int, accessFlags := 2, slot := 56, constantValue := 0 }, { name := "curEnd", type := .int, accessFlags := 2, slot := 57, constantValue := 0 }, { name := "mode", type := .int, accessFlags := 2, slot := 58, constantValue := 0 }, { name := "skipKind", type := .int, accessFlags := 2, slot := 59, constantValue := 0 }, { name := "skipDepth", type := .int, accessFlags := 2, slot := 60, constantValue := 0 }, { name := "reads", type := .int, accessFlags := 2, slot := 61, constantValue := 0 }, { name := "loc", type := .int, accessFlags := 2, slot := 62, constantValue := 0 }, { name := "counter", type := .int, accessFlags := 2, slot := 63, constantValue := 0 }, { name := "hLine", type := .int, accessFlags := 2, slot := 64, constantValue := 0 }, { name := "err", type := .boolean, accessFlags := 2, slot := 65, constantValue := 0 }, { name := "done", type := .boolean, accessFlags := 2, slot := 66, constantValue := 0 }, { name := "ln", type := (.array .char), accessFlags := 18, slot := 67, constantValue := 0 }, { name := "lnLen", type := .int, accessFlags := 2, slot := 68, constantValue := 0 }, { name := "hasLabel", type := .boolean, accessFlags := 2, slot := 69, constantValue := 0 }, { name := "labelCode", type := .long, accessFlags := 2, slot := 70, constantValue := 0 }, { name := "restAt", type := .int, accessFlags := 2, slot := 71, constantValue := 0 }, { name := "tkType", type := (.array .int), accessFlags := 18, slot := 72, constantValue := 0 }, { name := "tkVal", type := (.array .int), accessFlags := 18, slot := 73, constantValue := 0 }, { name := "tkCode", type := (.array .long), accessFlags := 18, slot := 74, constantValue := 0 }, { name := "tkN", type := .int, accessFlags := 2, slot := 75, constantValue := 0 }, { name := "exConst", type := .int, accessFlags := 2, slot := 76, constantValue := 0 }, { name := "exUN", type := .int, accessFlags := 2, slot := 77, constantValue := 0 }, { name := "exUnknown", type := .boolean, accessFlags := 2, slot := 78, constantValue := 0 }, { name := "exDoom", type := .boolean, accessFlags := 2, slot := 79, constantValue := 0 }, { name := "exUCode", type := (.array .long), accessFlags := 18, slot := 80, constantValue := 0 }, { name := "exUCoef", type := (.array .int), accessFlags := 18, slot := 81, constantValue := 0 }, { name := "fixN", type := .int, accessFlags := 2, slot := 82, constantValue := 0 }, { name := "fixAddr", type := (.array .int), accessFlags := 18, slot := 83, constantValue := 0 }, { name := "fixErr", type := (.array .int), accessFlags := 18, slot := 84, constantValue := 0 }, { name := "fixConst", type := (.array .int), accessFlags := 18, slot := 85, constantValue := 0 }, { name := "fixUN", type := (.array .int), accessFlags := 18, slot := 86, constantValue := 0 }, { name := "fixDoom", type := (.array .boolean), accessFlags := 18, slot := 87, constantValue := 0 }, { name := "fixUCode", type := (.array .long), accessFlags := 18, slot := 88, constantValue := 0 }, { name := "fixUCoef", type := (.array .int), accessFlags := 18, slot := 89, constantValue := 0 }]
  methods := #[k2m0, k2m1, k2m2, k2m3, k2m4, k2m5, k2m6, k2m7, k2m8, k2m9, k2m10, k2m11, k2m12, k2m13, k2m14, k2m15, k2m16, k2m17, k2m18, k2m19, k2m20, k2m21, k2m22, k2m23, k2m24, k2m25, k2m26, k2m27, k2m28, k2m29, k2m30, k2m31, k2m32, k2m33, k2m34, k2m35, k2m36, k2m37, k2m38, k2m39, k2m40]
  instanceTypes := #[.int, .int, .int, .int, .int, .int, .int, .int, .int, .int, .int, .int, .int, .int, .int, .int, .int, .int, .int, .int, .int, .int, (.array .char), .int, (.array .int), (.array .int), .int, .int, .int, .int, .int, (.array .int), (.array .long), (.array .int), .int, (.array .char), .int, (.array .char), .int, (.array .long), (.array .int), (.array .int), .int, .int, (.array .int), (.array .boolean), (.array .int), (.array .int), (.array .int), (.array .int), (.array .int), (.array .int), (.array .int), (.array .char), .int, .int, .int, .int, .int, .int, .int, .int, .int, .int, .int, .boolean, .boolean, (.array .char), .int, .boolean, .long, .int, (.array .int), (.array .int), (.array .long), .int, .int, .int, .boolean, .boolean, (.array .long), (.array .int), .int, (.array .int), (.array .int), (.array .int), (.array .int), (.array .boolean), (.array .long), (.array .int)]
  staticTypes := #[.int, .int, .int, .int, .int, .int, .int, .int, .int, .int, .int, .int, .int, .int, .int, .int, .int, .int, .int, .int, .int, .int, .int, .int]
  resolved := Array.replicate 599 none
  statics := none }

def pool3 : Array CpInfo := pool [(1, u "java/lang/Cloneable"), (0, .class_ 1), (0, u "java/lang/Object"), (0, .class_ 3)] 3

/-- java/lang/Cloneable -/
def k3 : Class := { plain "java/lang/Cloneable" (some 0) with
  accessFlags := 1537
  interfaces := #[]
  cf := some (fileOf pool3 2 #[] #[] 1537 4 #[] #[])
  fields := #[]
  methods := #[]
  instanceTypes := #[]
  staticTypes := #[]
  resolved := Array.replicate 8 none
  statics := none }

def pool4 : Array CpInfo := pool [(1, u "java/io/Serializable"), (0, .class_ 1), (0, u "java/lang/Object"), (0, .class_ 3)] 3

/-- java/io/Serializable -/
def k4 : Class := { plain "java/io/Serializable" (some 0) with
  accessFlags := 1537
  interfaces := #[]
  cf := some (fileOf pool4 2 #[] #[] 1537 4 #[] #[])
  fields := #[]
  methods := #[]
  instanceTypes := #[]
  staticTypes := #[]
  resolved := Array.replicate 8 none
  statics := none }

/-- the primitive boolean -/
def k5 : Class := { plain "boolean" none with kind := .primitive 'Z', accessFlags := 0x411 }
/-- [Z -/
def k6 : Class := { plain "[Z" (some 0) with kind := .array 5 .boolean, interfaces := #[3, 4], accessFlags := 1041 }

/-- the primitive byte -/
def k7 : Class := { plain "byte" none with kind := .primitive 'B', accessFlags := 0x411 }
/-- [B -/
def k8 : Class := { plain "[B" (some 0) with kind := .array 7 .byte, interfaces := #[3, 4], accessFlags := 1041 }

/-- the primitive char -/
def k9 : Class := { plain "char" none with kind := .primitive 'C', accessFlags := 0x411 }
/-- [C -/
def k10 : Class := { plain "[C" (some 0) with kind := .array 9 .char, interfaces := #[3, 4], accessFlags := 1041 }

/-- the primitive int -/
def k11 : Class := { plain "int" none with kind := .primitive 'I', accessFlags := 0x411 }
/-- [I -/
def k12 : Class := { plain "[I" (some 0) with kind := .array 11 .int, interfaces := #[3, 4], accessFlags := 1041 }

/-- the primitive long -/
def k13 : Class := { plain "long" none with kind := .primitive 'J', accessFlags := 0x411 }
/-- [J -/
def k14 : Class := { plain "[J" (some 0) with kind := .array 13 .long, interfaces := #[3, 4], accessFlags := 1041 }

def heap : Heap := #[]
def classes : Array Class := #[k0, k1, k2, k3, k4, k5, k6, k7, k8, k9, k10, k11, k12, k13, k14]
def interned : List (Array UInt16 × Addr) := []
def slotsUsed : Nat := 0
def theMethod : MethodId := ⟨1, 2⟩
def args0 : Array Value := #[.int 5, .long 65]
def aboutOver (below : List Frame) : State where
  vm := { classes := classes, interned := interned.toArray }
  heap := heap
  slotsUsed := slotsUsed
  threads := #[{ frames := .invoking theMethod args0 :: below }]
def below0 : List Frame := [.native { method := ⟨0, 0⟩, args := #[] }]
def about1 : State := aboutOver below0
def p0 : Program := .bare "" "" ""
def e0 : Env := launch0.env 0 0 0
theorem w_frames : about1.frames = Frame.invoking theMethod args0 :: below0 := rfl
set_option maxRecDepth 65536 in
theorem w_args : argsFit about1.vm theMethod args0 = true := by decide +kernel
set_option maxRecDepth 65536 in
theorem w_heap : heapFits about1 = true := by decide +kernel
set_option maxRecDepth 65536 in
theorem w_runnable : about1.curStatus? = some .runnable := by decide +kernel
set_option maxRecDepth 65536 in
theorem w_alone : about1.alone = true := by decide +kernel
set_option maxRecDepth 65536 in
theorem w_named : about1.methodNamed? x = some theMethod := by decide +kernel
set_option maxRecDepth 65536 in
theorem w_hears : about1.hears theMethod below0 = true := by decide +kernel
set_option maxRecDepth 65536 in
theorem w_ripe : about1.ripe theMethod args0 below0 = true := by decide +kernel
theorem w_running : about1.status = .running := rfl
set_option maxRecDepth 65536 in
theorem w_room : about1.hasRoom e0.platform room_1 = true :=
  launch0.hasRoom_least _ room_1 (by decide +kernel) (by decide +kernel) (by decide +kernel) (by decide +kernel) (by decide +kernel) (by decide +kernel)
theorem allAtoms_all (ts : List Jvm.Cond) (a : Array Jvm.Value) (st : Jvm.State) : (allAtoms ts).before a st = ts.all (fun c => c.before a st) := by
  induction ts with
  | nil => rfl
  | cons c t ih =>
    show (Jvm.Cond.and c (allAtoms t)).before a st = _
    rw [Jvm.Cond.before_and, ih, List.all_cons]
def words1 : List Jvm.Cond := Jvm.Cond.code x code maxLocals ret :: tables_1
/-- a 'code' word, met by the world's own term for the bytes: nothing is compared byte by byte -/
theorem code_word {y : MethodName} {bytes : ByteArray} {mx : Nat} {rt : Option FieldType} {a : Array Value} {s : State} {m : MethodId} {meth : Method} {c : Code} (h1 : s.methodNamed? y = some m) (h2 : s.vm.method? m = some meth) (h3 : meth.code = some c) (h4 : c.code = bytes)
    (h5 : (c.maxLocals == mx && c.exceptionTable.isEmpty && decide (c.maxStack ≤ mostOperands) && decide (meth.sig.returnType = rt) && !meth.locks && decide (parseMethodDescriptor y.desc = some meth.sig)) = true) : (Jvm.Cond.code y bytes mx rt).before a s = true := by
  simp only [Bool.and_eq_true, beq_iff_eq, Bool.not_eq_true', decide_eq_true_eq] at h5
  obtain ⟨⟨⟨⟨⟨g1, g2⟩, g3⟩, g4⟩, g5⟩, g6⟩ := h5
  simp [Cond.before, Cond.holds, Cond.value, h1, h2, h3, h4, g1, g2, g3, g4, g5, g6]
def isCode : Jvm.Cond → Bool
  | .code _ _ _ _ => true
  | _ => false
theorem all_split {L : List Jvm.Cond} {P : Jvm.Cond → Bool} (h1 : L.all (fun c => isCode c || P c) = true) (h2 : ∀ c ∈ L.filter isCode, P c = true) : L.all P = true := by
  refine List.all_eq_true.mpr fun c hc => ?_
  have h := List.all_eq_true.mp h1 c hc
  rcases Bool.eq_false_or_eq_true (isCode c) with hi | hi
  · exact h2 c (List.mem_filter.mpr ⟨hc, hi⟩)
  · simpa [hi] using h
set_option maxRecDepth 65536 in
theorem w_c0 : (Jvm.Cond.code x code maxLocals ret).before args0 about1 = true := code_word (m := ⟨1, 2⟩) (meth := k1m2) (c := k1c2) (by decide +kernel) rfl rfl rfl (by decide +kernel)
set_option maxRecDepth 65536 in
theorem w_c1 : (Jvm.Cond.code ({ cls := "MacroAssembler", name := "<init>", desc := "(I)V" } : Jvm.MethodName) prog_1_method_1_code (3 : Nat) (Option.none : Option Jvm.ClassFile.FieldType)).before args0 about1 = true := code_word (m := ⟨2, 0⟩) (meth := k2m0) (c := k2c0) (by decide +kernel) rfl rfl rfl (by decide +kernel)
set_option maxRecDepth 65536 in
theorem w_c2 : (Jvm.Cond.code ({ cls := "java/lang/Object", name := "<init>", desc := "()V" } : Jvm.MethodName) object_method_1_code (1 : Nat) (Option.none : Option Jvm.ClassFile.FieldType)).before args0 about1 = true := code_word (m := ⟨0, 0⟩) (meth := k0m0) (c := k0c0) (by decide +kernel) rfl rfl rfl (by decide +kernel)
set_option maxRecDepth 65536 in
theorem w_c3 : (Jvm.Cond.code ({ cls := "MacroAssembler", name := "feedLong", desc := "(J)I" } : Jvm.MethodName) prog_1_method_3_code (6 : Nat) (Option.some Jvm.ClassFile.FieldType.int)).before args0 about1 = true := code_word (m := ⟨2, 1⟩) (meth := k2m1) (c := k2c1) (by decide +kernel) rfl rfl rfl (by decide +kernel)
set_option maxRecDepth 65536 in
theorem w_c4 : (Jvm.Cond.code ({ cls := "MacroAssembler", name := "byteOf", desc := "(JI)I" } : Jvm.MethodName) prog_1_method_19_code (4 : Nat) (Option.some Jvm.ClassFile.FieldType.int)).before args0 about1 = true := code_word (m := ⟨2, 8⟩) (meth := k2m8) (c := k2c8) (by decide +kernel) rfl rfl rfl (by decide +kernel)
set_option maxRecDepth 65536 in
theorem w_c5 : (Jvm.Cond.code ({ cls := "MacroAssembler", name := "validChar", desc := "(I)Z" } : Jvm.MethodName) prog_1_method_18_code (2 : Nat) (Option.some Jvm.ClassFile.FieldType.boolean)).before args0 about1 = true := code_word (m := ⟨2, 7⟩) (meth := k2m7) (c := k2c7) (by decide +kernel) rfl rfl rfl (by decide +kernel)
set_option maxRecDepth 65536 in
theorem w_c6 : (Jvm.Cond.code ({ cls := "MacroAssembler", name := "resetResult", desc := "()V" } : Jvm.MethodName) prog_1_method_20_code (1 : Nat) (Option.none : Option Jvm.ClassFile.FieldType)).before args0 about1 = true := code_word (m := ⟨2, 9⟩) (meth := k2m9) (c := k2c9) (by decide +kernel) rfl rfl rfl (by decide +kernel)
set_option maxRecDepth 65536 in
theorem w_c7 : (Jvm.Cond.code ({ cls := "MacroAssembler", name := "assemble", desc := "()I" } : Jvm.MethodName) prog_1_method_5_code (2 : Nat) (Option.some Jvm.ClassFile.FieldType.int)).before args0 about1 = true := code_word (m := ⟨2, 2⟩) (meth := k2m2) (c := k2c2) (by decide +kernel) rfl rfl rfl (by decide +kernel)
set_option maxRecDepth 65536 in
theorem w_c8 : (Jvm.Cond.code ({ cls := "MacroAssembler", name := "startRun", desc := "()V" } : Jvm.MethodName) prog_1_method_38_code (1 : Nat) (Option.none : Option Jvm.ClassFile.FieldType)).before args0 about1 = true := code_word (m := ⟨2, 21⟩) (meth := k2m21) (c := k2c21) (by decide +kernel) rfl rfl rfl (by decide +kernel)
set_option maxRecDepth 65536 in
theorem w_c9 : (Jvm.Cond.code ({ cls := "MacroAssembler", name := "splitLines", desc := "()V" } : Jvm.MethodName) prog_1_method_39_code (3 : Nat) (Option.none : Option Jvm.ClassFile.FieldType)).before args0 about1 = true := code_word (m := ⟨2, 22⟩) (meth := k2m22) (c := k2c22) (by decide +kernel) rfl rfl rfl (by decide +kernel)
set_option maxRecDepth 65536 in
theorem w_c10 : (Jvm.Cond.code ({ cls := "MacroAssembler", name := "setInput", desc := "(II)V" } : Jvm.MethodName) prog_1_method_40_code (3 : Nat) (Option.none : Option Jvm.ClassFile.FieldType)).before args0 about1 = true := code_word (m := ⟨2, 23⟩) (meth := k2m23) (c := k2c23) (by decide +kernel) rfl rfl rfl (by decide +kernel)
set_option maxRecDepth 65536 in
theorem w_c11 : (Jvm.Cond.code ({ cls := "MacroAssembler", name := "step", desc := "()V" } : Jvm.MethodName) prog_1_method_41_code (2 : Nat) (Option.none : Option Jvm.ClassFile.FieldType)).before args0 about1 = true := code_word (m := ⟨2, 24⟩) (meth := k2m24) (c := k2c24) (by decide +kernel) rfl rfl rfl (by decide +kernel)
set_option maxRecDepth 65536 in
theorem w_c12 : (Jvm.Cond.code ({ cls := "MacroAssembler", name := "copyLine", desc := "(I)V" } : Jvm.MethodName) prog_1_method_45_code (3 : Nat) (Option.none : Option Jvm.ClassFile.FieldType)).before args0 about1 = true := code_word (m := ⟨2, 26⟩) (meth := k2m26) (c := k2c26) (by decide +kernel) rfl rfl rfl (by decide +kernel)
set_option maxRecDepth 65536 in
theorem w_c13 : (Jvm.Cond.code ({ cls := "MacroAssembler", name := "normalLine", desc := "()V" } : Jvm.MethodName) prog_1_method_53_code (10 : Nat) (Option.none : Option Jvm.ClassFile.FieldType)).before args0 about1 = true := code_word (m := ⟨2, 27⟩) (meth := k2m27) (c := k2c27) (by decide +kernel) rfl rfl rfl (by decide +kernel)
set_option maxRecDepth 65536 in
theorem w_c14 : (Jvm.Cond.code ({ cls := "MacroAssembler", name := "findLabel", desc := "()V" } : Jvm.MethodName) prog_1_method_54_code (4 : Nat) (Option.none : Option Jvm.ClassFile.FieldType)).before args0 about1 = true := code_word (m := ⟨2, 28⟩) (meth := k2m28) (c := k2c28) (by decide +kernel) rfl rfl rfl (by decide +kernel)
set_option maxRecDepth 65536 in
theorem w_c15 : (Jvm.Cond.code ({ cls := "MacroAssembler", name := "skipSpaces", desc := "(I)I" } : Jvm.MethodName) prog_1_method_25_code (4 : Nat) (Option.some Jvm.ClassFile.FieldType.int)).before args0 about1 = true := code_word (m := ⟨2, 12⟩) (meth := k2m12) (c := k2c12) (by decide +kernel) rfl rfl rfl (by decide +kernel)
set_option maxRecDepth 65536 in
theorem w_c16 : (Jvm.Cond.code ({ cls := "MacroAssembler", name := "identStart", desc := "(I)Z" } : Jvm.MethodName) prog_1_method_23_code (2 : Nat) (Option.some Jvm.ClassFile.FieldType.boolean)).before args0 about1 = true := code_word (m := ⟨2, 10⟩) (meth := k2m10) (c := k2c10) (by decide +kernel) rfl rfl rfl (by decide +kernel)
set_option maxRecDepth 65536 in
theorem w_c17 : (Jvm.Cond.code ({ cls := "MacroAssembler", name := "identEnd", desc := "(I)I" } : Jvm.MethodName) prog_1_method_26_code (4 : Nat) (Option.some Jvm.ClassFile.FieldType.int)).before args0 about1 = true := code_word (m := ⟨2, 13⟩) (meth := k2m13) (c := k2c13) (by decide +kernel) rfl rfl rfl (by decide +kernel)
set_option maxRecDepth 65536 in
theorem w_c18 : (Jvm.Cond.code ({ cls := "MacroAssembler", name := "identChar", desc := "(I)Z" } : Jvm.MethodName) prog_1_method_24_code (2 : Nat) (Option.some Jvm.ClassFile.FieldType.boolean)).before args0 about1 = true := code_word (m := ⟨2, 11⟩) (meth := k2m11) (c := k2c11) (by decide +kernel) rfl rfl rfl (by decide +kernel)
set_option maxRecDepth 65536 in
theorem w_c19 : (Jvm.Cond.code ({ cls := "MacroAssembler", name := "pack", desc := "(II)J" } : Jvm.MethodName) prog_1_method_27_code (6 : Nat) (Option.some Jvm.ClassFile.FieldType.long)).before args0 about1 = true := code_word (m := ⟨2, 14⟩) (meth := k2m14) (c := k2c14) (by decide +kernel) rfl rfl rfl (by decide +kernel)
set_option maxRecDepth 65536 in
theorem w_c20 : (Jvm.Cond.code ({ cls := "MacroAssembler", name := "wordAt", desc := "(I)J" } : Jvm.MethodName) prog_1_method_28_code (3 : Nat) (Option.some Jvm.ClassFile.FieldType.long)).before args0 about1 = true := code_word (m := ⟨2, 15⟩) (meth := k2m15) (c := k2c15) (by decide +kernel) rfl rfl rfl (by decide +kernel)
set_option maxRecDepth 65536 in
theorem w_c21 : (Jvm.Cond.code ({ cls := "MacroAssembler", name := "kwCode", desc := "(I)J" } : Jvm.MethodName) prog_1_method_33_code (2 : Nat) (Option.some Jvm.ClassFile.FieldType.long)).before args0 about1 = true := code_word (m := ⟨2, 19⟩) (meth := k2m19) (c := k2c19) (by decide +kernel) rfl rfl rfl (by decide +kernel)
set_option maxRecDepth 65536 in
theorem w_c22 : (Jvm.Cond.code ({ cls := "MacroAssembler", name := "word", desc := "(IIIII)J" } : Jvm.MethodName) prog_1_method_32_code (8 : Nat) (Option.some Jvm.ClassFile.FieldType.long)).before args0 about1 = true := code_word (m := ⟨2, 18⟩) (meth := k2m18) (c := k2c18) (by decide +kernel) rfl rfl rfl (by decide +kernel)
set_option maxRecDepth 65536 in
theorem w_c23 : (Jvm.Cond.code ({ cls := "MacroAssembler", name := "kwIndex", desc := "(J)I" } : Jvm.MethodName) prog_1_method_34_code (4 : Nat) (Option.some Jvm.ClassFile.FieldType.int)).before args0 about1 = true := code_word (m := ⟨2, 20⟩) (meth := k2m20) (c := k2c20) (by decide +kernel) rfl rfl rfl (by decide +kernel)
set_option maxRecDepth 65536 in
theorem w_c24 : (Jvm.Cond.code ({ cls := "MacroAssembler", name := "statement", desc := "(I)V" } : Jvm.MethodName) prog_1_method_58_code (2 : Nat) (Option.none : Option Jvm.ClassFile.FieldType)).before args0 about1 = true := code_word (m := ⟨2, 31⟩) (meth := k2m31) (c := k2c31) (by decide +kernel) rfl rfl rfl (by decide +kernel)
set_option maxRecDepth 65536 in
theorem w_c25 : (Jvm.Cond.code ({ cls := "MacroAssembler", name := "tokenize", desc := "(I)V" } : Jvm.MethodName) prog_1_method_75_code (8 : Nat) (Option.none : Option Jvm.ClassFile.FieldType)).before args0 about1 = true := code_word (m := ⟨2, 33⟩) (meth := k2m33) (c := k2c33) (by decide +kernel) rfl rfl rfl (by decide +kernel)
set_option maxRecDepth 65536 in
theorem w_c26 : (Jvm.Cond.code ({ cls := "MacroAssembler", name := "addTok", desc := "(IIJ)V" } : Jvm.MethodName) prog_1_method_77_code (5 : Nat) (Option.none : Option Jvm.ClassFile.FieldType)).before args0 about1 = true := code_word (m := ⟨2, 34⟩) (meth := k2m34) (c := k2c34) (by decide +kernel) rfl rfl rfl (by decide +kernel)
set_option maxRecDepth 65536 in
theorem w_c27 : (Jvm.Cond.code ({ cls := "MacroAssembler", name := "formSimple", desc := "(I)V" } : Jvm.MethodName) prog_1_method_61_code (2 : Nat) (Option.none : Option Jvm.ClassFile.FieldType)).before args0 about1 = true := code_word (m := ⟨2, 32⟩) (meth := k2m32) (c := k2c32) (by decide +kernel) rfl rfl rfl (by decide +kernel)
set_option maxRecDepth 65536 in
theorem w_c28 : (Jvm.Cond.code ({ cls := "MacroAssembler", name := "defineLabel", desc := "()V" } : Jvm.MethodName) prog_1_method_55_code (1 : Nat) (Option.none : Option Jvm.ClassFile.FieldType)).before args0 about1 = true := code_word (m := ⟨2, 29⟩) (meth := k2m29) (c := k2c29) (by decide +kernel) rfl rfl rfl (by decide +kernel)
set_option maxRecDepth 65536 in
theorem w_c29 : (Jvm.Cond.code ({ cls := "MacroAssembler", name := "emit", desc := "(I)V" } : Jvm.MethodName) prog_1_method_57_code (2 : Nat) (Option.none : Option Jvm.ClassFile.FieldType)).before args0 about1 = true := code_word (m := ⟨2, 30⟩) (meth := k2m30) (c := k2c30) (by decide +kernel) rfl rfl rfl (by decide +kernel)
set_option maxRecDepth 65536 in
theorem w_c30 : (Jvm.Cond.code ({ cls := "MacroAssembler", name := "exhausted", desc := "()V" } : Jvm.MethodName) prog_1_method_42_code (1 : Nat) (Option.none : Option Jvm.ClassFile.FieldType)).before args0 about1 = true := code_word (m := ⟨2, 25⟩) (meth := k2m25) (c := k2c25) (by decide +kernel) rfl rfl rfl (by decide +kernel)
set_option maxRecDepth 65536 in
theorem w_c31 : (Jvm.Cond.code ({ cls := "MacroAssembler", name := "finish", desc := "()V" } : Jvm.MethodName) prog_1_method_82_code (5 : Nat) (Option.none : Option Jvm.ClassFile.FieldType)).before args0 about1 = true := code_word (m := ⟨2, 35⟩) (meth := k2m35) (c := k2c35) (by decide +kernel) rfl rfl rfl (by decide +kernel)
set_option maxRecDepth 65536 in
theorem w_c32 : (Jvm.Cond.code ({ cls := "MacroAssembler", name := "buildListing", desc := "()V" } : Jvm.MethodName) prog_1_method_87_code (3 : Nat) (Option.none : Option Jvm.ClassFile.FieldType)).before args0 about1 = true := code_word (m := ⟨2, 39⟩) (meth := k2m39) (c := k2c39) (by decide +kernel) rfl rfl rfl (by decide +kernel)
set_option maxRecDepth 65536 in
theorem w_c33 : (Jvm.Cond.code ({ cls := "MacroAssembler", name := "listOne", desc := "(I)I" } : Jvm.MethodName) prog_1_method_88_code (3 : Nat) (Option.some Jvm.ClassFile.FieldType.int)).before args0 about1 = true := code_word (m := ⟨2, 40⟩) (meth := k2m40) (c := k2c40) (by decide +kernel) rfl rfl rfl (by decide +kernel)
set_option maxRecDepth 65536 in
theorem w_c34 : (Jvm.Cond.code ({ cls := "MacroAssembler", name := "putKw", desc := "(I)V" } : Jvm.MethodName) prog_1_method_85_code (4 : Nat) (Option.none : Option Jvm.ClassFile.FieldType)).before args0 about1 = true := code_word (m := ⟨2, 38⟩) (meth := k2m38) (c := k2c38) (by decide +kernel) rfl rfl rfl (by decide +kernel)
set_option maxRecDepth 65536 in
theorem w_c35 : (Jvm.Cond.code ({ cls := "MacroAssembler", name := "putName", desc := "(J)V" } : Jvm.MethodName) prog_1_method_84_code (6 : Nat) (Option.none : Option Jvm.ClassFile.FieldType)).before args0 about1 = true := code_word (m := ⟨2, 37⟩) (meth := k2m37) (c := k2c37) (by decide +kernel) rfl rfl rfl (by decide +kernel)
set_option maxRecDepth 65536 in
theorem w_c36 : (Jvm.Cond.code ({ cls := "MacroAssembler", name := "nameLen", desc := "(J)I" } : Jvm.MethodName) prog_1_method_30_code (7 : Nat) (Option.some Jvm.ClassFile.FieldType.int)).before args0 about1 = true := code_word (m := ⟨2, 16⟩) (meth := k2m16) (c := k2c16) (by decide +kernel) rfl rfl rfl (by decide +kernel)
set_option maxRecDepth 65536 in
theorem w_c37 : (Jvm.Cond.code ({ cls := "MacroAssembler", name := "nameChar", desc := "(JII)I" } : Jvm.MethodName) prog_1_method_31_code (5 : Nat) (Option.some Jvm.ClassFile.FieldType.int)).before args0 about1 = true := code_word (m := ⟨2, 17⟩) (meth := k2m17) (c := k2c17) (by decide +kernel) rfl rfl rfl (by decide +kernel)
set_option maxRecDepth 65536 in
theorem w_c38 : (Jvm.Cond.code ({ cls := "MacroAssembler", name := "lstPut", desc := "(I)V" } : Jvm.MethodName) prog_1_method_83_code (2 : Nat) (Option.none : Option Jvm.ClassFile.FieldType)).before args0 about1 = true := code_word (m := ⟨2, 36⟩) (meth := k2m36) (c := k2c36) (by decide +kernel) rfl rfl rfl (by decide +kernel)
set_option maxRecDepth 65536 in
theorem w_c39 : (Jvm.Cond.code ({ cls := "MacroAssemblerL2", name := "okc", desc := "(I)Z" } : Jvm.MethodName) method_2_code (1 : Nat) (Option.some Jvm.ClassFile.FieldType.boolean)).before args0 about1 = true := code_word (m := ⟨1, 1⟩) (meth := k1m1) (c := k1c1) (by decide +kernel) rfl rfl rfl (by decide +kernel)
set_option maxRecDepth 65536 in
theorem w_c40 : (Jvm.Cond.code ({ cls := "MacroAssembler", name := "sourceLength", desc := "()I" } : Jvm.MethodName) prog_1_method_8_code (1 : Nat) (Option.some Jvm.ClassFile.FieldType.int)).before args0 about1 = true := code_word (m := ⟨2, 4⟩) (meth := k2m4) (c := k2c4) (by decide +kernel) rfl rfl rfl (by decide +kernel)
set_option maxRecDepth 65536 in
theorem w_c41 : (Jvm.Cond.code ({ cls := "MacroAssembler", name := "status", desc := "()I" } : Jvm.MethodName) prog_1_method_6_code (1 : Nat) (Option.some Jvm.ClassFile.FieldType.int)).before args0 about1 = true := code_word (m := ⟨2, 3⟩) (meth := k2m3) (c := k2c3) (by decide +kernel) rfl rfl rfl (by decide +kernel)
set_option maxRecDepth 65536 in
theorem w_c42 : (Jvm.Cond.code ({ cls := "MacroAssembler", name := "imageLength", desc := "()I" } : Jvm.MethodName) prog_1_method_9_code (1 : Nat) (Option.some Jvm.ClassFile.FieldType.int)).before args0 about1 = true := code_word (m := ⟨2, 5⟩) (meth := k2m5) (c := k2c5) (by decide +kernel) rfl rfl rfl (by decide +kernel)
set_option maxRecDepth 65536 in
theorem w_c43 : (Jvm.Cond.code ({ cls := "MacroAssembler", name := "imageByte", desc := "(I)I" } : Jvm.MethodName) prog_1_method_10_code (2 : Nat) (Option.some Jvm.ClassFile.FieldType.int)).before args0 about1 = true := code_word (m := ⟨2, 6⟩) (meth := k2m6) (c := k2c6) (by decide +kernel) rfl rfl rfl (by decide +kernel)
def codes1 : List Jvm.Cond := [Jvm.Cond.code x code maxLocals ret, Jvm.Cond.code ({ cls := "MacroAssembler", name := "<init>", desc := "(I)V" } : Jvm.MethodName) prog_1_method_1_code (3 : Nat) (Option.none : Option Jvm.ClassFile.FieldType), Jvm.Cond.code ({ cls := "java/lang/Object", name := "<init>", desc := "()V" } : Jvm.MethodName) object_method_1_code (1 : Nat) (Option.none : Option Jvm.ClassFile.FieldType), Jvm.Cond.code ({ cls := "MacroAssembler", name := "feedLong", desc := "(J)I" } : Jvm.MethodName) prog_1_method_3_code (6 : Nat) (Option.some Jvm.ClassFile.FieldType.int), Jvm.Cond.code ({ cls := "MacroAssembler", name := "byteOf", desc := "(JI)I" } : Jvm.MethodName) prog_1_method_19_code (4 : Nat) (Option.some Jvm.ClassFile.FieldType.int), Jvm.Cond.code ({ cls := "MacroAssembler", name := "validChar", desc := "(I)Z" } : Jvm.MethodName) prog_1_method_18_code (2 : Nat) (Option.some Jvm.ClassFile.FieldType.boolean), Jvm.Cond.code ({ cls := "MacroAssembler", name := "resetResult", desc := "()V" } : Jvm.MethodName) prog_1_method_20_code (1 : Nat) (Option.none : Option Jvm.ClassFile.FieldType), Jvm.Cond.code ({ cls := "MacroAssembler", name := "assemble", desc := "()I" } : Jvm.MethodName) prog_1_method_5_code (2 : Nat) (Option.some Jvm.ClassFile.FieldType.int), Jvm.Cond.code ({ cls := "MacroAssembler", name := "startRun", desc := "()V" } : Jvm.MethodName) prog_1_method_38_code (1 : Nat) (Option.none : Option Jvm.ClassFile.FieldType), Jvm.Cond.code ({ cls := "MacroAssembler", name := "splitLines", desc := "()V" } : Jvm.MethodName) prog_1_method_39_code (3 : Nat) (Option.none : Option Jvm.ClassFile.FieldType), Jvm.Cond.code ({ cls := "MacroAssembler", name := "setInput", desc := "(II)V" } : Jvm.MethodName) prog_1_method_40_code (3 : Nat) (Option.none : Option Jvm.ClassFile.FieldType), Jvm.Cond.code ({ cls := "MacroAssembler", name := "step", desc := "()V" } : Jvm.MethodName) prog_1_method_41_code (2 : Nat) (Option.none : Option Jvm.ClassFile.FieldType), Jvm.Cond.code ({ cls := "MacroAssembler", name := "copyLine", desc := "(I)V" } : Jvm.MethodName) prog_1_method_45_code (3 : Nat) (Option.none : Option Jvm.ClassFile.FieldType), Jvm.Cond.code ({ cls := "MacroAssembler", name := "normalLine", desc := "()V" } : Jvm.MethodName) prog_1_method_53_code (10 : Nat) (Option.none : Option Jvm.ClassFile.FieldType), Jvm.Cond.code ({ cls := "MacroAssembler", name := "findLabel", desc := "()V" } : Jvm.MethodName) prog_1_method_54_code (4 : Nat) (Option.none : Option Jvm.ClassFile.FieldType), Jvm.Cond.code ({ cls := "MacroAssembler", name := "skipSpaces", desc := "(I)I" } : Jvm.MethodName) prog_1_method_25_code (4 : Nat) (Option.some Jvm.ClassFile.FieldType.int), Jvm.Cond.code ({ cls := "MacroAssembler", name := "identStart", desc := "(I)Z" } : Jvm.MethodName) prog_1_method_23_code (2 : Nat) (Option.some Jvm.ClassFile.FieldType.boolean), Jvm.Cond.code ({ cls := "MacroAssembler", name := "identEnd", desc := "(I)I" } : Jvm.MethodName) prog_1_method_26_code (4 : Nat) (Option.some Jvm.ClassFile.FieldType.int), Jvm.Cond.code ({ cls := "MacroAssembler", name := "identChar", desc := "(I)Z" } : Jvm.MethodName) prog_1_method_24_code (2 : Nat) (Option.some Jvm.ClassFile.FieldType.boolean), Jvm.Cond.code ({ cls := "MacroAssembler", name := "pack", desc := "(II)J" } : Jvm.MethodName) prog_1_method_27_code (6 : Nat) (Option.some Jvm.ClassFile.FieldType.long), Jvm.Cond.code ({ cls := "MacroAssembler", name := "wordAt", desc := "(I)J" } : Jvm.MethodName) prog_1_method_28_code (3 : Nat) (Option.some Jvm.ClassFile.FieldType.long), Jvm.Cond.code ({ cls := "MacroAssembler", name := "kwCode", desc := "(I)J" } : Jvm.MethodName) prog_1_method_33_code (2 : Nat) (Option.some Jvm.ClassFile.FieldType.long), Jvm.Cond.code ({ cls := "MacroAssembler", name := "word", desc := "(IIIII)J" } : Jvm.MethodName) prog_1_method_32_code (8 : Nat) (Option.some Jvm.ClassFile.FieldType.long), Jvm.Cond.code ({ cls := "MacroAssembler", name := "kwIndex", desc := "(J)I" } : Jvm.MethodName) prog_1_method_34_code (4 : Nat) (Option.some Jvm.ClassFile.FieldType.int), Jvm.Cond.code ({ cls := "MacroAssembler", name := "statement", desc := "(I)V" } : Jvm.MethodName) prog_1_method_58_code (2 : Nat) (Option.none : Option Jvm.ClassFile.FieldType), Jvm.Cond.code ({ cls := "MacroAssembler", name := "tokenize", desc := "(I)V" } : Jvm.MethodName) prog_1_method_75_code (8 : Nat) (Option.none : Option Jvm.ClassFile.FieldType), Jvm.Cond.code ({ cls := "MacroAssembler", name := "addTok", desc := "(IIJ)V" } : Jvm.MethodName) prog_1_method_77_code (5 : Nat) (Option.none : Option Jvm.ClassFile.FieldType), Jvm.Cond.code ({ cls := "MacroAssembler", name := "formSimple", desc := "(I)V" } : Jvm.MethodName) prog_1_method_61_code (2 : Nat) (Option.none : Option Jvm.ClassFile.FieldType), Jvm.Cond.code ({ cls := "MacroAssembler", name := "defineLabel", desc := "()V" } : Jvm.MethodName) prog_1_method_55_code (1 : Nat) (Option.none : Option Jvm.ClassFile.FieldType), Jvm.Cond.code ({ cls := "MacroAssembler", name := "emit", desc := "(I)V" } : Jvm.MethodName) prog_1_method_57_code (2 : Nat) (Option.none : Option Jvm.ClassFile.FieldType), Jvm.Cond.code ({ cls := "MacroAssembler", name := "exhausted", desc := "()V" } : Jvm.MethodName) prog_1_method_42_code (1 : Nat) (Option.none : Option Jvm.ClassFile.FieldType), Jvm.Cond.code ({ cls := "MacroAssembler", name := "finish", desc := "()V" } : Jvm.MethodName) prog_1_method_82_code (5 : Nat) (Option.none : Option Jvm.ClassFile.FieldType), Jvm.Cond.code ({ cls := "MacroAssembler", name := "buildListing", desc := "()V" } : Jvm.MethodName) prog_1_method_87_code (3 : Nat) (Option.none : Option Jvm.ClassFile.FieldType), Jvm.Cond.code ({ cls := "MacroAssembler", name := "listOne", desc := "(I)I" } : Jvm.MethodName) prog_1_method_88_code (3 : Nat) (Option.some Jvm.ClassFile.FieldType.int), Jvm.Cond.code ({ cls := "MacroAssembler", name := "putKw", desc := "(I)V" } : Jvm.MethodName) prog_1_method_85_code (4 : Nat) (Option.none : Option Jvm.ClassFile.FieldType), Jvm.Cond.code ({ cls := "MacroAssembler", name := "putName", desc := "(J)V" } : Jvm.MethodName) prog_1_method_84_code (6 : Nat) (Option.none : Option Jvm.ClassFile.FieldType), Jvm.Cond.code ({ cls := "MacroAssembler", name := "nameLen", desc := "(J)I" } : Jvm.MethodName) prog_1_method_30_code (7 : Nat) (Option.some Jvm.ClassFile.FieldType.int), Jvm.Cond.code ({ cls := "MacroAssembler", name := "nameChar", desc := "(JII)I" } : Jvm.MethodName) prog_1_method_31_code (5 : Nat) (Option.some Jvm.ClassFile.FieldType.int), Jvm.Cond.code ({ cls := "MacroAssembler", name := "lstPut", desc := "(I)V" } : Jvm.MethodName) prog_1_method_83_code (2 : Nat) (Option.none : Option Jvm.ClassFile.FieldType), Jvm.Cond.code ({ cls := "MacroAssemblerL2", name := "okc", desc := "(I)Z" } : Jvm.MethodName) method_2_code (1 : Nat) (Option.some Jvm.ClassFile.FieldType.boolean), Jvm.Cond.code ({ cls := "MacroAssembler", name := "sourceLength", desc := "()I" } : Jvm.MethodName) prog_1_method_8_code (1 : Nat) (Option.some Jvm.ClassFile.FieldType.int), Jvm.Cond.code ({ cls := "MacroAssembler", name := "status", desc := "()I" } : Jvm.MethodName) prog_1_method_6_code (1 : Nat) (Option.some Jvm.ClassFile.FieldType.int), Jvm.Cond.code ({ cls := "MacroAssembler", name := "imageLength", desc := "()I" } : Jvm.MethodName) prog_1_method_9_code (1 : Nat) (Option.some Jvm.ClassFile.FieldType.int), Jvm.Cond.code ({ cls := "MacroAssembler", name := "imageByte", desc := "(I)I" } : Jvm.MethodName) prog_1_method_10_code (2 : Nat) (Option.some Jvm.ClassFile.FieldType.int)]
set_option maxRecDepth 65536 in
theorem codes_eq : words1.filter isCode = codes1 := rfl
theorem w_codes : ∀ c ∈ words1.filter isCode, c.before args0 about1 = true := by
  rw [codes_eq]
  intro c hc
  simp only [codes1, List.mem_cons, List.not_mem_nil, or_false] at hc
  rcases hc with rfl | rfl | rfl | rfl | rfl | rfl | rfl | rfl | rfl | rfl | rfl | rfl | rfl | rfl | rfl | rfl | rfl | rfl | rfl | rfl | rfl | rfl | rfl | rfl | rfl | rfl | rfl | rfl | rfl | rfl | rfl | rfl | rfl | rfl | rfl | rfl | rfl | rfl | rfl | rfl | rfl | rfl | rfl | rfl
  · exact w_c0
  · exact w_c1
  · exact w_c2
  · exact w_c3
  · exact w_c4
  · exact w_c5
  · exact w_c6
  · exact w_c7
  · exact w_c8
  · exact w_c9
  · exact w_c10
  · exact w_c11
  · exact w_c12
  · exact w_c13
  · exact w_c14
  · exact w_c15
  · exact w_c16
  · exact w_c17
  · exact w_c18
  · exact w_c19
  · exact w_c20
  · exact w_c21
  · exact w_c22
  · exact w_c23
  · exact w_c24
  · exact w_c25
  · exact w_c26
  · exact w_c27
  · exact w_c28
  · exact w_c29
  · exact w_c30
  · exact w_c31
  · exact w_c32
  · exact w_c33
  · exact w_c34
  · exact w_c35
  · exact w_c36
  · exact w_c37
  · exact w_c38
  · exact w_c39
  · exact w_c40
  · exact w_c41
  · exact w_c42
  · exact w_c43
set_option maxRecDepth 65536 in
theorem w_t1 : (words1.take 24).all (fun c => isCode c || c.before args0 about1) = true := by decide +kernel
set_option maxRecDepth 65536 in
theorem w_t2 : ((words1.drop 24).take 24).all (fun c => isCode c || c.before args0 about1) = true := by decide +kernel
set_option maxRecDepth 65536 in
theorem w_t3 : (((words1.drop 24).drop 24).take 24).all (fun c => isCode c || c.before args0 about1) = true := by decide +kernel
set_option maxRecDepth 65536 in
theorem w_t4 : ((((words1.drop 24).drop 24).drop 24).take 24).all (fun c => isCode c || c.before args0 about1) = true := by decide +kernel
set_option maxRecDepth 65536 in
theorem w_t5 : (((((words1.drop 24).drop 24).drop 24).drop 24).take 24).all (fun c => isCode c || c.before args0 about1) = true := by decide +kernel
set_option maxRecDepth 65536 in
theorem w_t6 : ((((((words1.drop 24).drop 24).drop 24).drop 24).drop 24).take 24).all (fun c => isCode c || c.before args0 about1) = true := by decide +kernel
set_option maxRecDepth 65536 in
theorem w_t7 : (((((((words1.drop 24).drop 24).drop 24).drop 24).drop 24).drop 24).take 24).all (fun c => isCode c || c.before args0 about1) = true := by decide +kernel
set_option maxRecDepth 65536 in
theorem w_t8 : ((((((((words1.drop 24).drop 24).drop 24).drop 24).drop 24).drop 24).drop 24).take 24).all (fun c => isCode c || c.before args0 about1) = true := by decide +kernel
set_option maxRecDepth 65536 in
theorem w_t9 : (((((((((words1.drop 24).drop 24).drop 24).drop 24).drop 24).drop 24).drop 24).drop 24).take 24).all (fun c => isCode c || c.before args0 about1) = true := by decide +kernel
set_option maxRecDepth 65536 in
theorem w_t10 : ((((((((((words1.drop 24).drop 24).drop 24).drop 24).drop 24).drop 24).drop 24).drop 24).drop 24).take 24).all (fun c => isCode c || c.before args0 about1) = true := by decide +kernel
set_option maxRecDepth 65536 in
theorem w_t11 : (((((((((((words1.drop 24).drop 24).drop 24).drop 24).drop 24).drop 24).drop 24).drop 24).drop 24).drop 24).take 24).all (fun c => isCode c || c.before args0 about1) = true := by decide +kernel
set_option maxRecDepth 65536 in
theorem w_t12 : ((((((((((((words1.drop 24).drop 24).drop 24).drop 24).drop 24).drop 24).drop 24).drop 24).drop 24).drop 24).drop 24).take 24).all (fun c => isCode c || c.before args0 about1) = true := by decide +kernel
set_option maxRecDepth 65536 in
theorem w_t13 : (((((((((((((words1.drop 24).drop 24).drop 24).drop 24).drop 24).drop 24).drop 24).drop 24).drop 24).drop 24).drop 24).drop 24).take 24).all (fun c => isCode c || c.before args0 about1) = true := by decide +kernel
set_option maxRecDepth 65536 in
theorem w_t14 : ((((((((((((((words1.drop 24).drop 24).drop 24).drop 24).drop 24).drop 24).drop 24).drop 24).drop 24).drop 24).drop 24).drop 24).drop 24).take 24).all (fun c => isCode c || c.before args0 about1) = true := by decide +kernel
set_option maxRecDepth 65536 in
theorem w_t15 : (((((((((((((((words1.drop 24).drop 24).drop 24).drop 24).drop 24).drop 24).drop 24).drop 24).drop 24).drop 24).drop 24).drop 24).drop 24).drop 24).take 24).all (fun c => isCode c || c.before args0 about1) = true := by decide +kernel
set_option maxRecDepth 65536 in
theorem w_t16 : (((((((((((((((words1.drop 24).drop 24).drop 24).drop 24).drop 24).drop 24).drop 24).drop 24).drop 24).drop 24).drop 24).drop 24).drop 24).drop 24).drop 24).all (fun c => isCode c || c.before args0 about1) = true := by decide +kernel
theorem w_tables : (allAtoms (Jvm.Cond.code x code maxLocals ret :: tables_1)).before args0 about1 = true := by
  rw [allAtoms_all]
  show words1.all (fun c => c.before args0 about1) = true
  refine all_split ?_ w_codes
  rw [← List.take_append_drop 24 words1, List.all_append, w_t1, ← List.take_append_drop 24 (words1.drop 24), List.all_append, w_t2, ← List.take_append_drop 24 ((words1.drop 24).drop 24), List.all_append, w_t3, ← List.take_append_drop 24 (((words1.drop 24).drop 24).drop 24), List.all_append, w_t4, ← List.take_append_drop 24 ((((words1.drop 24).drop 24).drop 24).drop 24), List.all_append, w_t5, ← List.take_append_drop 24 (((((words1.drop 24).drop 24).drop 24).drop 24).drop 24), List.all_append, w_t6, ← List.take_append_drop 24 ((((((words1.drop 24).drop 24).drop 24).drop 24).drop 24).drop 24), List.all_append, w_t7, ← List.take_append_drop 24 (((((((words1.drop 24).drop 24).drop 24).drop 24).drop 24).drop 24).drop 24), List.all_append, w_t8, ← List.take_append_drop 24 ((((((((words1.drop 24).drop 24).drop 24).drop 24).drop 24).drop 24).drop 24).drop 24), List.all_append, w_t9, ← List.take_append_drop 24 (((((((((words1.drop 24).drop 24).drop 24).drop 24).drop 24).drop 24).drop 24).drop 24).drop 24), List.all_append, w_t10, ← List.take_append_drop 24 ((((((((((words1.drop 24).drop 24).drop 24).drop 24).drop 24).drop 24).drop 24).drop 24).drop 24).drop 24), List.all_append, w_t11, ← List.take_append_drop 24 (((((((((((words1.drop 24).drop 24).drop 24).drop 24).drop 24).drop 24).drop 24).drop 24).drop 24).drop 24).drop 24), List.all_append, w_t12, ← List.take_append_drop 24 ((((((((((((words1.drop 24).drop 24).drop 24).drop 24).drop 24).drop 24).drop 24).drop 24).drop 24).drop 24).drop 24).drop 24), List.all_append, w_t13, ← List.take_append_drop 24 (((((((((((((words1.drop 24).drop 24).drop 24).drop 24).drop 24).drop 24).drop 24).drop 24).drop 24).drop 24).drop 24).drop 24).drop 24), List.all_append, w_t14, ← List.take_append_drop 24 ((((((((((((((words1.drop 24).drop 24).drop 24).drop 24).drop 24).drop 24).drop 24).drop 24).drop 24).drop 24).drop 24).drop 24).drop 24).drop 24), List.all_append, w_t15, w_t16]
  rfl
set_option maxRecDepth 65536 in
theorem w_case : (Jvm.Cond.and given_1 narrow_1).before args0 about1 = true := by decide +kernel
theorem w_applies : (headSpec (Jvm.Cond.code x code maxLocals ret :: tables_1) room_1).applies x e0.platform about1 = true :=
  (Spec.applies_iff w_frames).mpr ⟨w_running, w_runnable, w_alone, w_named, w_hears, w_ripe, w_room, w_tables⟩
theorem atStart : AtStart classFile x code maxLocals ret World_1 tables_1 room_1 Calls_1 rest_1 Pre_1 launch0 p0 e0 about1 theMethod args0 below0 :=
  ⟨lists_1, trivial, launch0.admits_env _ _ _, launch0.least_env, fairChoices_fair.cas, fairChoices_fair.clock, w_frames, w_args, w_heap, w_applies, trivial, trivial, w_case⟩
end start1
theorem witness_1 : WitnessClaimed_1 := ⟨start1.p0, start1.e0, start1.about1, start1.theMethod, start1.args0, start1.below0, start1.atStart⟩
end Jvm.Pilot.@@N@@
