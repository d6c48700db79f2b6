import JvmDerived
import JvmDerived.Pilot.@@N@@Statement
import JvmDerived.Pilot.@@N@@Code
set_option linter.unusedVariables false
set_option linter.unusedSimpArgs false
namespace Jvm.Own
open Sem ClassFile Op Lib Jvm.Stand Jvm.Free Jvm.LawKit Jvm.RoadKit
/-! OWN 1: words of the sheet, resolved -/
abbrev AHeap := List (FieldType × List Value)
abbrev Ws := List Jvm.Cond
def rFld (ws : Ws) (own : String) (i : Nat) : Option (String × String × String) :=
  ws.findSome? fun d => match d with
    | .fieldLink o j C n t => if o = own ∧ j = i then some (C, n, t) else none
    | _ => none
def rCls (ws : Ws) (own : String) (i : Nat) : Option String :=
  ws.findSome? fun d => match d with
    | .classLink o j C => if o = own ∧ j = i then some C else none
    | _ => none
def rMth (ws : Ws) (own : String) (i : Nat) : Option MethodName :=
  ws.findSome? fun d => match d with
    | .methodLink o j y => if o = own ∧ j = i then some y else none
    | _ => none
def rCon (ws : Ws) (own : String) (i : Nat) : Option Int32 :=
  ws.findSome? fun d => match d with
    | .constant o j v => if o = own ∧ j = i then some v else none
    | _ => none
def rConL (ws : Ws) (own : String) (i : Nat) : Option Int64 :=
  ws.findSome? fun d => match d with
    | .constantLong o j v => if o = own ∧ j = i then some v else none
    | _ => none
def rInst (ws : Ws) (C : String) : Option Nat :=
  ws.findSome? fun d => match d with
    | .instantiable c n => if c = C then some n else none
    | _ => none
def rCode (ws : Ws) (y : MethodName) : Option (ByteArray × Nat × Option FieldType) :=
  ws.findSome? fun d => match d with
    | .code z b m r => if z = y then some (b, m, r) else none
    | _ => none
def hasInit (ws : Ws) (C : String) : Bool := ws.any fun d => match d with | .initialized c => c == C | _ => false
def hasArr (ws : Ws) (t : FieldType) : Bool := ws.any fun d => match d with | .arrayClass c => decide (c = t) | _ => false
def hasStat (ws : Ws) (y : MethodName) : Bool := ws.any fun d => match d with | .static z => decide (z = y) | _ => false
def hasIM (ws : Ws) (y : MethodName) : Bool := ws.any fun d => match d with | .instanceMethod z => decide (z = y) | _ => false
def hasPriv (ws : Ws) (y : MethodName) : Bool := ws.any fun d => match d with | .privateMethod z => decide (z = y) | _ => false
def hasDecl (ws : Ws) (y : MethodName) : Bool := ws.any fun d => match d with | .declares z => decide (z = y) | _ => false
def hasSel (ws : Ws) (y : MethodName) : Bool := ws.any fun d => match d with | .selects c z z' => decide (c = y.cls ∧ z = y ∧ z' = y) | _ => false
def hasLays (ws : Ws) (C n t : String) : Bool := ws.any fun d => match d with | .lays c o n' t' => decide (c = C ∧ o = C ∧ n' = n ∧ t' = t) | _ => false
def hasLaysF (ws : Ws) (C n t : String) : Bool := ws.any fun d => match d with | .laysFinal c o n' t' => decide (c = C ∧ o = C ∧ n' = n ∧ t' = t) | _ => false
def layE (C : String) : Jvm.Cond → Option (String × String)
  | .lays c o n t => if c = C ∧ o = C ∧ (parseFieldDescriptor t).isSome = true then some (n, t) else none
  | .laysFinal c o n t => if c = C ∧ o = C ∧ (parseFieldDescriptor t).isSome = true then some (n, t) else none
  | _ => none
def olay (ws : Ws) (C : String) : List (String × String) := ws.filterMap (layE C)
def idx (x : String × String) : List (String × String) → Option Nat
  | [] => none
  | y :: r => if y = x then some 0 else (idx x r).map (· + 1)
def fidx (ws : Ws) (C n t : String) : Option Nat := idx (n, t) (olay ws C)
def gfR (ws : Ws) (own : String) (i : Nat) : Option (String × Nat) :=
  match rFld ws own i with
  | some (C, n, t) => (fidx ws C n t).map fun j => (C, j)
  | none => none
def pfR (ws : Ws) (own mn : String) (i : Nat) : Option (String × Nat × FieldType) :=
  match rFld ws own i with
  | some (C, n, t) =>
    match fidx ws C n t, parseFieldDescriptor t with
    | some j, some ty => if (hasLays ws C n t || (hasLaysF ws C n t && own == C && mn == "<init>")) && (rInst ws C).isSome && (olay ws C).all (fun q => q.1 != n || q.2 == t) then some (C, j, ty) else none
    | _, _ => none
  | none => none
section Res
variable {ws : Ws} {own C n t : String} {i : Nat} {y : MethodName}
theorem rFld_mem (h : rFld ws own i = some (C, n, t)) : Jvm.Cond.fieldLink own i C n t ∈ ws := by
  obtain ⟨d, hd, e⟩ := List.exists_of_findSome?_eq_some h
  split at e
  · split at e
    · rename_i q; obtain ⟨rfl, rfl⟩ := q; cases e; exact hd
    · cases e
  · cases e
theorem rCls_mem (h : rCls ws own i = some C) : Jvm.Cond.classLink own i C ∈ ws := by
  obtain ⟨d, hd, e⟩ := List.exists_of_findSome?_eq_some h
  split at e
  · split at e
    · rename_i q; obtain ⟨rfl, rfl⟩ := q; cases e; exact hd
    · cases e
  · cases e
theorem rMth_mem (h : rMth ws own i = some y) : Jvm.Cond.methodLink own i y ∈ ws := by
  obtain ⟨d, hd, e⟩ := List.exists_of_findSome?_eq_some h
  split at e
  · split at e
    · rename_i q; obtain ⟨rfl, rfl⟩ := q; cases e; exact hd
    · cases e
  · cases e
theorem rCon_mem {v : Int32} (h : rCon ws own i = some v) : Jvm.Cond.constant own i v ∈ ws := by
  obtain ⟨d, hd, e⟩ := List.exists_of_findSome?_eq_some h
  split at e
  · split at e
    · rename_i q; obtain ⟨rfl, rfl⟩ := q; cases e; exact hd
    · cases e
  · cases e
theorem rConL_mem {v : Int64} (h : rConL ws own i = some v) : Jvm.Cond.constantLong own i v ∈ ws := by
  obtain ⟨d, hd, e⟩ := List.exists_of_findSome?_eq_some h
  split at e
  · split at e
    · rename_i q; obtain ⟨rfl, rfl⟩ := q; cases e; exact hd
    · cases e
  · cases e
theorem rInst_mem {k : Nat} (h : rInst ws C = some k) : Jvm.Cond.instantiable C k ∈ ws := by
  obtain ⟨d, hd, e⟩ := List.exists_of_findSome?_eq_some h
  split at e
  · split at e
    · rename_i q; subst q; cases e; exact hd
    · cases e
  · cases e
theorem rCode_mem {b : ByteArray} {k : Nat} {r : Option FieldType} (h : rCode ws y = some (b, k, r)) : Jvm.Cond.code y b k r ∈ ws := by
  obtain ⟨d, hd, e⟩ := List.exists_of_findSome?_eq_some h
  split at e
  · split at e
    · rename_i q; subst q; cases e; exact hd
    · cases e
  · cases e
theorem hasInit_mem (h : hasInit ws C = true) : Jvm.Cond.initialized C ∈ ws := by
  obtain ⟨d, hd, e⟩ := List.any_eq_true.mp h
  split at e
  · rw [beq_iff_eq] at e; subst e; exact hd
  · cases e
theorem hasArr_mem {ty : FieldType} (h : hasArr ws ty = true) : Jvm.Cond.arrayClass ty ∈ ws := by
  obtain ⟨d, hd, e⟩ := List.any_eq_true.mp h
  split at e
  · have e := of_decide_eq_true e; subst e; exact hd
  · cases e
theorem hasStat_mem (h : hasStat ws y = true) : Jvm.Cond.static y ∈ ws := by
  obtain ⟨d, hd, e⟩ := List.any_eq_true.mp h
  split at e
  · have e := of_decide_eq_true e; subst e; exact hd
  · cases e
theorem hasIM_mem (h : hasIM ws y = true) : Jvm.Cond.instanceMethod y ∈ ws := by
  obtain ⟨d, hd, e⟩ := List.any_eq_true.mp h
  split at e
  · have e := of_decide_eq_true e; subst e; exact hd
  · cases e
theorem hasPriv_mem (h : hasPriv ws y = true) : Jvm.Cond.privateMethod y ∈ ws := by
  obtain ⟨d, hd, e⟩ := List.any_eq_true.mp h
  split at e
  · have e := of_decide_eq_true e; subst e; exact hd
  · cases e
theorem hasDecl_mem (h : hasDecl ws y = true) : Jvm.Cond.declares y ∈ ws := by
  obtain ⟨d, hd, e⟩ := List.any_eq_true.mp h
  split at e
  · have e := of_decide_eq_true e; subst e; exact hd
  · cases e
theorem hasSel_mem (h : hasSel ws y = true) : Jvm.Cond.selects y.cls y y ∈ ws := by
  obtain ⟨d, hd, e⟩ := List.any_eq_true.mp h
  split at e
  · obtain ⟨rfl, rfl, rfl⟩ := of_decide_eq_true e; exact hd
  · cases e
theorem hasLays_mem (h : hasLays ws C n t = true) : Jvm.Cond.lays C C n t ∈ ws := by
  obtain ⟨d, hd, e⟩ := List.any_eq_true.mp h
  split at e
  · obtain ⟨rfl, rfl, rfl, rfl⟩ := of_decide_eq_true e; exact hd
  · cases e
theorem hasLaysF_mem (h : hasLaysF ws C n t = true) : Jvm.Cond.laysFinal C C n t ∈ ws := by
  obtain ⟨d, hd, e⟩ := List.any_eq_true.mp h
  split at e
  · obtain ⟨rfl, rfl, rfl, rfl⟩ := of_decide_eq_true e; exact hd
  · cases e
theorem lay_mem (h : (n, t) ∈ olay ws C) : (Jvm.Cond.lays C C n t ∈ ws ∨ Jvm.Cond.laysFinal C C n t ∈ ws) ∧ ∃ ty, parseFieldDescriptor t = some ty := by
  obtain ⟨d, hd, e⟩ := List.mem_filterMap.mp h
  unfold layE at e
  split at e
  · split at e
    · rename_i q; obtain ⟨rfl, rfl, q⟩ := q; cases e; exact ⟨Or.inl hd, Option.isSome_iff_exists.mp q⟩
    · cases e
  · split at e
    · rename_i q; obtain ⟨rfl, rfl, q⟩ := q; cases e; exact ⟨Or.inr hd, Option.isSome_iff_exists.mp q⟩
    · cases e
  · cases e
theorem idx_get {x : String × String} : ∀ {l : List (String × String)} {j : Nat}, idx x l = some j → l[j]? = some x
  | [], _, h => by cases h
  | y :: r, j, h => by
    unfold idx at h
    split at h
    · rename_i q; cases h; simp [q]
    · obtain ⟨j', h', rfl⟩ := Option.map_eq_some_iff.mp h
      simpa using idx_get h'
theorem fidx_mem {j : Nat} (h : fidx ws C n t = some j) : (n, t) ∈ olay ws C := List.mem_of_getElem? (idx_get h)
theorem fidx_inj {n' t' : String} {j : Nat} (h : fidx ws C n t = some j) (h' : fidx ws C n' t' = some j) : n = n' ∧ t = t' := by
  have := (idx_get h).symm.trans (idx_get h')
  simpa using this
theorem gfR_some {j : Nat} (h : gfR ws own i = some (C, j)) : ∃ n t, rFld ws own i = some (C, n, t) ∧ fidx ws C n t = some j := by
  unfold gfR at h
  split at h
  · rename_i C' n' t' q
    obtain ⟨j', h', e⟩ := Option.map_eq_some_iff.mp h
    cases e; exact ⟨_, _, q, h'⟩
  · cases h
theorem pfR_some {mn : String} {j : Nat} {ty : FieldType} (h : pfR ws own mn i = some (C, j, ty)) : ∃ n t, rFld ws own i = some (C, n, t) ∧ fidx ws C n t = some j ∧ parseFieldDescriptor t = some ty ∧
    (Jvm.Cond.lays C C n t ∈ ws ∨ (Jvm.Cond.laysFinal C C n t ∈ ws ∧ own = C ∧ mn = "<init>")) ∧ (∃ k, Jvm.Cond.instantiable C k ∈ ws) ∧ ∀ n' t', (n', t') ∈ olay ws C → n' ≠ n ∨ t' = t := by
  unfold pfR at h
  split at h
  · rename_i C' n' t' q
    split at h
    · rename_i j' ty' q1 q2
      split at h
      · rename_i g
        cases h
        simp only [Bool.and_eq_true, Bool.or_eq_true, beq_iff_eq, List.all_eq_true, bne_iff_ne, ne_eq] at g
        obtain ⟨⟨g1, g2⟩, g3⟩ := g
        obtain ⟨k, hk⟩ := Option.isSome_iff_exists.mp g2
        refine ⟨n', t', q, q1, q2, ?_, ⟨k, rInst_mem hk⟩, fun a b hab => g3 (a, b) hab⟩
        rcases g1 with g1 | ⟨⟨g1, g4⟩, g5⟩
        · exact Or.inl (hasLays_mem g1)
        · exact Or.inr ⟨hasLaysF_mem g1, g4, g5⟩
      · cases h
    · cases h
  · cases h
end Res
end Jvm.Own
namespace Jvm.Own
open Sem ClassFile Op Lib Jvm.Stand Jvm.Free Jvm.LawKit Jvm.RoadKit
/-! OWN 2: the abstract machine -/
abbrev XR := Option (Nat × List Slot × List Value)
def chk {α : Type} (a b : Nat) (x : Option α) : Option α := if a = b then x else none
def isI : Value → Bool | .int _ => true | _ => false
def isL : Value → Bool | .long _ => true | _ => false
def stl (ls : List Slot) (i : Nat) (v : Value) : Option (List Slot) := (storeLocals ls.toArray i v).map Array.toList
def ldV (p : Value → Bool) (nx i : Nat) (ls : List Slot) (st : List Value) : XR :=
  match ls[i]? with
  | some (.val v) => if p v = true then some (nx, ls, v :: st) else none
  | _ => none
def stV (p : Value → Bool) (nx i : Nat) (ls : List Slot) : List Value → XR
  | v :: r => if p v = true then (stl ls i v).map fun l' => (nx, l', r) else none
  | [] => none
def b2 (f : Int32 → Int32 → Int32) (nx : Nat) (ls : List Slot) : List Value → XR
  | .int y :: .int x :: r => some (nx, ls, .int (f x y) :: r)
  | _ => none
def d2 (f : Int32 → Int32 → Int32) (nx : Nat) (ls : List Slot) : List Value → XR
  | .int y :: .int x :: r => if y = 0 then none else some (nx, ls, .int (f x y) :: r)
  | _ => none
def u1 (f : Int32 → Int32) (nx : Nat) (ls : List Slot) : List Value → XR
  | .int x :: r => some (nx, ls, .int (f x) :: r)
  | _ => none
def l2 (f : Int64 → Int64 → Int64) (nx : Nat) (ls : List Slot) : List Value → XR
  | .long y :: .long x :: r => some (nx, ls, .long (f x y) :: r)
  | _ => none
def lsh (f : Int64 → Int32 → Int64) (nx : Nat) (ls : List Slot) : List Value → XR
  | .int y :: .long x :: r => some (nx, ls, .long (f x y) :: r)
  | _ => none
def jmp (pc : Nat) (o : Int) : Option Nat := if 0 ≤ (pc : Int) + o then some ((pc : Int) + o).toNat else none
def br (c : Bool) (pc : Nat) (o : Int) (ls : List Slot) (r : List Value) : XR :=
  if c = true then (jmp pc o).map fun q => (q, ls, r) else some (pc + 3, ls, r)
def sw (pc : Nat) (dflt low high : Int) (offs : Array Int) (ls : List Slot) : List Value → XR
  | .int i :: r => if i.toInt < low ∨ i.toInt > high then (jmp pc dflt).map fun q => (q, ls, r) else
      match offs[(i.toInt - low).toNat]? with
      | some o => (jmp pc o).map fun q => (q, ls, r)
      | none => none
  | _ => none
def xstep (ins : Instr) (len pc : Nat) (ls : List Slot) (st : List Value) : XR :=
  match ins with
  | .aload_n i => chk len 1 (ldV Value.isRef (pc + 1) i.val ls st)
  | .aload i => chk len 2 (ldV Value.isRef (pc + 2) i ls st)
  | .iload_n i => chk len 1 (ldV isI (pc + 1) i.val ls st)
  | .iload i => chk len 2 (ldV isI (pc + 2) i ls st)
  | .lload_n i => chk len 1 (ldV isL (pc + 1) i.val ls st)
  | .lload i => chk len 2 (ldV isL (pc + 2) i ls st)
  | .astore_n i => chk len 1 (stV Value.isRef (pc + 1) i.val ls st)
  | .astore i => chk len 2 (stV Value.isRef (pc + 2) i ls st)
  | .istore_n i => chk len 1 (stV isI (pc + 1) i.val ls st)
  | .istore i => chk len 2 (stV isI (pc + 2) i ls st)
  | .lstore_n i => chk len 1 (stV isL (pc + 1) i.val ls st)
  | .lstore i => chk len 2 (stV isL (pc + 2) i ls st)
  | .iconst i => chk len 1 (some (pc + 1, ls, .int (Int32.ofInt i) :: st))
  | .bipush i => chk len 2 (some (pc + 2, ls, .int (Int8.ofInt i).toInt32 :: st))
  | .sipush i => chk len 3 (some (pc + 3, ls, .int (Int16.ofInt i).toInt32 :: st))
  | .lconst i => chk len 1 (some (pc + 1, ls, .long (Int64.ofNat i) :: st))
  | .iadd => chk len 1 (b2 (fun x y => x + y) (pc + 1) ls st)
  | .isub => chk len 1 (b2 (fun x y => x - y) (pc + 1) ls st)
  | .imul => chk len 1 (b2 (fun x y => x * y) (pc + 1) ls st)
  | .iand => chk len 1 (b2 (fun x y => x &&& y) (pc + 1) ls st)
  | .ior => chk len 1 (b2 (fun x y => x ||| y) (pc + 1) ls st)
  | .ixor => chk len 1 (b2 (fun x y => x ^^^ y) (pc + 1) ls st)
  | .ishl => chk len 1 (b2 (fun x y => x <<< (y &&& 31)) (pc + 1) ls st)
  | .ishr => chk len 1 (b2 (fun x y => x >>> (y &&& 31)) (pc + 1) ls st)
  | .iushr => chk len 1 (b2 XT.ushr (pc + 1) ls st)
  | .idiv => chk len 1 (d2 (fun x y => x / y) (pc + 1) ls st)
  | .irem => chk len 1 (d2 (fun x y => x % y) (pc + 1) ls st)
  | .ineg => chk len 1 (u1 (fun x => -x) (pc + 1) ls st)
  | .i2b => chk len 1 (u1 (fun x => x.toInt8.toInt32) (pc + 1) ls st)
  | .i2c => chk len 1 (u1 (fun x => x.toUInt32.toUInt16.toUInt32.toInt32) (pc + 1) ls st)
  | .ladd => chk len 1 (l2 (fun x y => x + y) (pc + 1) ls st)
  | .lsub => chk len 1 (l2 (fun x y => x - y) (pc + 1) ls st)
  | .lmul => chk len 1 (l2 (fun x y => x * y) (pc + 1) ls st)
  | .land => chk len 1 (l2 (fun x y => x &&& y) (pc + 1) ls st)
  | .lor => chk len 1 (l2 (fun x y => x ||| y) (pc + 1) ls st)
  | .lxor => chk len 1 (l2 (fun x y => x ^^^ y) (pc + 1) ls st)
  | .lshl => chk len 1 (lsh (fun x y => x <<< (y.toInt64 &&& 63)) (pc + 1) ls st)
  | .lshr => chk len 1 (lsh (fun x y => x >>> (y.toInt64 &&& 63)) (pc + 1) ls st)
  | .lushr => chk len 1 (lsh XT.ushrL (pc + 1) ls st)
  | .lneg => chk len 1 (match st with | .long x :: r => some (pc + 1, ls, .long (-x) :: r) | _ => none)
  | .i2l => chk len 1 (match st with | .int x :: r => some (pc + 1, ls, .long x.toInt64 :: r) | _ => none)
  | .l2i => chk len 1 (match st with | .long x :: r => some (pc + 1, ls, .int x.toInt32 :: r) | _ => none)
  | .lcmp => chk len 1 (match st with | .long y :: .long x :: r => some (pc + 1, ls, .int (XT.cmpL x y) :: r) | _ => none)
  | .iinc i cst => chk len 3 (match ls[i]? with | some (.val (.int x)) => (stl ls i (.int (x + Int32.ofInt cst))).map fun l' => (pc + 3, l', st) | _ => none)
  | .dup => chk len 1 (match st with | x :: r => if x.category = 1 then some (pc + 1, ls, x :: x :: r) else none | _ => none)
  | .dup2 => chk len 1 (match st with
      | .long x :: r => some (pc + 1, ls, .long x :: .long x :: r)
      | x :: y :: r => if x.category = 1 ∧ y.category = 1 then some (pc + 1, ls, x :: y :: x :: y :: r) else none
      | _ => none)
  | .pop => chk len 1 (match st with | x :: r => if x.category = 1 then some (pc + 1, ls, r) else none | _ => none)
  | .goto o => chk len 3 ((jmp pc o).map fun q => (q, ls, st))
  | .ifCond cd o => chk len 3 (match st with | .int x :: r => br (ifCond.holds cd x) pc o ls r | _ => none)
  | .if_icmp cd o => chk len 3 (match st with | .int y :: .int x :: r => br (if_icmp.holds cd x y) pc o ls r | _ => none)
  | .tableswitch dflt low high offs => sw pc dflt low high offs ls st
  | _ => none
abbrev HR := Option (Nat × List Value × AHeap)
def putv : FieldType → Value → Option Value
  | .int, .int x => some (.int x)
  | .boolean, .int x => some (.int (nar .boolean x))
  | .byte, .int x => some (.int (nar .byte x))
  | .char, .int x => some (.int (nar .char x))
  | .short, .int x => some (.int (nar .short x))
  | .long, .long x => some (.long x)
  | .array _, .ref a => some (.ref a)
  | _, _ => none
def dflt (q : String × String) : Value := match parseFieldDescriptor q.2 with | some ty => defaultValue ty | none => .null
def hGet (ws : Ws) (own : String) (i pc : Nat) (H : AHeap) : List Value → HR
  | .ref a :: r =>
    match gfR ws own i, H[a]? with
    | some (C, j), some (.object C', vs) => if C = C' then (vs[j]?).map fun v => (pc + 3, v :: r, H) else none
    | _, _ => none
  | _ => none
def hPut (ws : Ws) (k : Nat) (own mn : String) (i pc : Nat) (H : AHeap) : List Value → HR
  | v :: .ref a :: r =>
    match pfR ws own mn i, H[a]? with
    | some (C, j, ty), some (.object C', vs) => if C = C' ∧ k ≤ a ∧ j < vs.length then (putv ty v).map fun v' => (pc + 3, r, H.set a (.object C', vs.set j v')) else none
    | _, _ => none
  | _ => none
def hNew (ws : Ws) (own : String) (i pc : Nat) (H : AHeap) (st : List Value) : HR :=
  match rCls ws own i with
  | some C => if (rInst ws C).isSome = true ∧ hasInit ws C = true then some (pc + 3, .ref H.length :: st, H ++ [(.object C, (olay ws C).map dflt)]) else none
  | none => none
def hNewA (ws : Ws) (aty : ArrayType) (pc : Nat) (H : AHeap) : List Value → HR
  | .int n :: r => if hasArr ws (newarray.typeOf aty) = true ∧ ¬ n < 0 ∧ n.toNatClampNeg * 8 ≤ 536870912 then
      some (pc + 2, .ref H.length :: r, H ++ [(.array (newarray.typeOf aty), List.replicate n.toNatClampNeg (defaultValue (newarray.typeOf aty)))]) else none
  | _ => none
def hLd (ok : FieldType → Bool) (pc : Nat) (H : AHeap) : List Value → HR
  | .int j :: .ref a :: r =>
    match H[a]? with
    | some (.array ty, vs) => if ok ty = true ∧ ¬ j < 0 then (vs[j.toNatClampNeg]?).map fun v => (pc + 1, v :: r, H) else none
    | _ => none
  | _ => none
def hSt (ok : FieldType → Bool) (k pc : Nat) (H : AHeap) : List Value → HR
  | v :: .int j :: .ref a :: r =>
    match H[a]? with
    | some (.array ty, vs) => if ok ty = true ∧ k ≤ a ∧ ¬ j < 0 ∧ j.toNatClampNeg < vs.length then (putv ty v).map fun v' => (pc + 1, r, H.set a (.array ty, vs.set j.toNatClampNeg v')) else none
    | _ => none
  | _ => none
def hLen (pc : Nat) (H : AHeap) : List Value → HR
  | .ref a :: r =>
    match H[a]? with
    | some (.array _, vs) => some (pc + 1, .int vs.length.toInt32 :: r, H)
    | _ => none
  | _ => none
def okT (t u : FieldType) : Bool := decide (u = t)
def okB (u : FieldType) : Bool := decide (u = .byte) || decide (u = .boolean)
def hstep (ws : Ws) (k : Nat) (y : MethodName) (ins : Instr) (len pc : Nat) (st : List Value) (H : AHeap) : HR :=
  match ins with
  | .getfield i => chk len 3 (hGet ws y.cls i pc H st)
  | .putfield i => chk len 3 (hPut ws k y.cls y.name i pc H st)
  | .new i => chk len 3 (hNew ws y.cls i pc H st)
  | .newarray aty => chk len 2 (hNewA ws aty pc H st)
  | .iaload => chk len 1 (hLd (okT .int) pc H st)
  | .caload => chk len 1 (hLd (okT .char) pc H st)
  | .laload => chk len 1 (hLd (okT .long) pc H st)
  | .baload => chk len 1 (hLd okB pc H st)
  | .iastore => chk len 1 (hSt (okT .int) k pc H st)
  | .castore => chk len 1 (hSt (okT .char) k pc H st)
  | .lastore => chk len 1 (hSt (okT .long) k pc H st)
  | .bastore => chk len 1 (hSt okB k pc H st)
  | .arraylength => chk len 1 (hLen pc H st)
  | .ldc i => chk len 2 ((rCon ws y.cls i).map fun v => (pc + 2, .int v :: st, H))
  | .ldc_w i => chk len 3 ((rCon ws y.cls i).map fun v => (pc + 3, .int v :: st, H))
  | .ldc2_w i => chk len 3 ((rConL ws y.cls i).map fun v => (pc + 3, .long v :: st, H))
  | _ => none
def ent : List Value → List Slot
  | [] => []
  | v :: r => if v.category = 2 then .val v :: .second :: ent r else .val v :: ent r
def entry (as : List Value) (mx : Nat) : List Slot := ent as ++ List.replicate (mx - (ent as).length) .unset
def wsum (st : List Value) : Nat := (st.map fun v => v.category).sum
abbrev Dn := List (MethodName × Nat × Nat)
def dnOf (dn : Dn) (y : MethodName) : Option (Nat × Nat) := dn.findSome? fun q => if q.1 = y then some q.2 else none
/-- what a methodref says: callee, its code, max_locals, return, number of parameters, slack for what lies under -/
def cR (ws : Ws) (dn : Dn) (y : MethodName) (i : Nat) : Option (MethodName × ByteArray × Nat × Option FieldType × Nat × Nat) :=
  match rMth ws y.cls i with
  | none => none
  | some y' =>
    match rCode ws y', dnOf dn y', dnOf dn y, parseMethodDescriptor y'.desc with
    | some (b, mx, r), some (f', l'), some (f, l), some sig =>
      if hasInit ws y'.cls = true ∧ Jvm.plainName y'.cls = true ∧ y'.cls ≠ "java/lang/invoke/MethodHandle" ∧ y'.cls ≠ "java/lang/invoke/VarHandle" ∧ f' + 1 ≤ f ∧ mx + 11 + l' ≤ l then
        some (y', b, mx, r, sig.parameters.length, l - (mx + 11 + l')) else none
    | _, _, _, _ => none
def sR (ws : Ws) (dn : Dn) (y : MethodName) (i : Nat) : Option (MethodName × ByteArray × Nat × Option FieldType × Nat × Nat) :=
  match cR ws dn y i with
  | some q => if hasStat ws q.1 = true then some q else none
  | none => none
def nR (ws : Ws) (dn : Dn) (y : MethodName) (i : Nat) : Option (MethodName × ByteArray × Nat × Option FieldType × Nat × Nat) :=
  match cR ws dn y i with
  | some q => if q.1.name = "<init>" ∧ hasIM ws q.1 = true ∧ q.2.2.2.1 = none then some q else none
  | none => none
/-- the first: is it private? -/
def vR (ws : Ws) (dn : Dn) (y : MethodName) (i : Nat) : Option (Bool × MethodName × ByteArray × Nat × Option FieldType × Nat × Nat) :=
  match cR ws dn y i with
  | some q => if hasIM ws q.1 = true then
      (if hasPriv ws q.1 = true ∧ (rInst ws q.1.cls).isSome = true then some (true, q) else if hasDecl ws q.1 = true ∧ hasSel ws q.1 = true then some (false, q) else none) else none
  | none => none
/-- Object.<init>: how many words may lie under it -/
def oR (ws : Ws) (dn : Dn) (y : MethodName) (i : Nat) : Option Nat :=
  match rMth ws y.cls i, rCode ws Lib.objectInit, dnOf dn y with
  | some y', some (b, mx, r), some (f, l) =>
    if y' = Lib.objectInit ∧ hasIM ws Lib.objectInit = true ∧ b.data = #[0xb1] ∧ mx = 1 ∧ r = none ∧ 1 ≤ f ∧ 12 ≤ l then some (l - 12) else none
  | _, _, _ => none
abbrev Call := MethodName × ByteArray × Option FieldType × List Slot × List Value
/-- returns and calls -/
def cstep (ws : Ws) (dn : Dn) (y : MethodName) (ret : Option FieldType) (ins : Instr) (len pc : Nat) (ls : List Slot) (st : List Value) (H : AHeap) : Option (Option Value ⊕ (Nat × List Slot × List Value × AHeap) ⊕ Call) :=
  match ins with
  | .ireturn => chk len 1 (match st, ret with
      | .int z :: _, some t => if t = .int ∨ t = .boolean ∨ t = .byte ∨ t = .char ∨ t = .short then some (.inl (some (.int (nar t z)))) else none
      | _, _ => none)
  | .lreturn => chk len 1 (match st, ret with
      | [.long z], some .long => some (.inl (some (.long z)))
      | _, _ => none)
  | .return_ => chk len 1 (match st, ret with
      | [], none => some (.inl none)
      | _, _ => none)
  | .invokestatic i => chk len 3 (match sR ws dn y i with
      | some (y', b, mx, r, na, sl) =>
        if na ≤ st.length ∧ wsum (st.drop na) ≤ sl ∧ (ent (st.take na).reverse).length ≤ mx then
          some (.inr (.inr (y', b, r, entry (st.take na).reverse mx, st.drop na)))
        else none
      | none => none)
  | .invokespecial i => chk len 3 (match oR ws dn y i with
      | some sl => (match st with
          | .ref _ :: r => if wsum r ≤ sl then some (.inr (.inl (pc + 3, ls, r, H))) else none
          | _ => none)
      | none => match nR ws dn y i with
        | some (y', b, mx, r, na, sl) =>
          (match st.drop na with
          | .ref a :: rest =>
            if wsum rest ≤ sl ∧ (ent (.ref a :: (st.take na).reverse)).length ≤ mx ∧ na ≤ st.length then
              some (.inr (.inr (y', b, r, entry (.ref a :: (st.take na).reverse) mx, rest)))
            else none
          | _ => none)
        | none => none)
  | .invokevirtual i => chk len 3 (match vR ws dn y i with
      | some (pv, y', b, mx, r, na, sl) =>
        (match st.drop na with
        | .ref a :: rest =>
          (match H[a]? with
          | some (.object C, _) =>
            if (pv = true ∨ C = y'.cls) ∧ wsum rest ≤ sl ∧ (ent (.ref a :: (st.take na).reverse)).length ≤ mx ∧ na ≤ st.length then
              some (.inr (.inr (y', b, r, entry (.ref a :: (st.take na).reverse) mx, rest)))
            else none
          | _ => none)
        | _ => none)
      | none => none)
  | _ => none
/-- what the machine does next: it returns, it steps, it calls -/
def act (ws : Ws) (dn : Dn) (k : Nat) (y : MethodName) (bytes : ByteArray) (ret : Option FieldType) (pc : Nat) (ls : List Slot) (st : List Value) (H : AHeap) : Option (Option Value ⊕ (Nat × List Slot × List Value × AHeap) ⊕ Call) :=
  match decode bytes pc with
  | .error _ => none
  | .ok (ins, len) =>
    match xstep ins len pc ls st with
    | some q => some (.inr (.inl (q.1, q.2.1, q.2.2, H)))
    | none => match hstep ws k y ins len pc st H with
      | some q => some (.inr (.inl (q.1, ls, q.2.1, q.2.2)))
      | none => cstep ws dn y ret ins len pc ls st H
def run (ws : Ws) (dn : Dn) (k : Nat) : Nat → MethodName → ByteArray → Option FieldType → Nat → List Slot → List Value → AHeap → Option (Option Value × AHeap)
  | 0, _, _, _, _, _, _, _ => none
  | n + 1, y, bytes, ret, pc, ls, st, H =>
    match act ws dn k y bytes ret pc ls st H with
    | none => none
    | some (.inl v) => some (v, H)
    | some (.inr (.inl (pc', ls', st', H'))) => run ws dn k n y bytes ret pc' ls' st' H'
    | some (.inr (.inr (y', b, r, en, rest))) =>
      match run ws dn k n y' b r 0 en [] H with
      | some (v, H1) => run ws dn k n y bytes ret (pc + 3) ls (v.toList ++ rest) H1
      | none => none
end Jvm.Own
namespace Jvm.Own
open Sem ClassFile Op Lib Jvm.Stand Jvm.Free Jvm.LawKit Jvm.RoadKit
/-! OWN 3: the abstract machine's plain steps are the machine's -/
def ren (f : Nat → Nat) : Value → Value
  | .ref a => .ref (f a)
  | v => v
def renS (f : Nat → Nat) : Slot → Slot
  | .val v => .val (ren f v)
  | s => s
abbrev fr (f : Nat → Nat) (m : MethodId) (pc : Nat) (ls : List Slot) (st : List Value) : JFrame := mkF m pc (ls.map (renS f)).toArray (st.map (ren f))
theorem ren_cat (f : Nat → Nat) (v : Value) : (ren f v).category = v.category := by cases v <;> rfl
theorem ren_isRef (f : Nat → Nat) (v : Value) : (ren f v).isRef = v.isRef := by cases v <;> rfl
theorem isI_int {v : Value} (h : isI v = true) : ∃ x, v = .int x := by cases v <;> first | exact ⟨_, rfl⟩ | cases h
theorem isL_long {v : Value} (h : isL v = true) : ∃ x, v = .long x := by cases v <;> first | exact ⟨_, rfl⟩ | cases h
theorem chk_some {α : Type} {a b : Nat} {x : Option α} {r : α} (h : chk a b x = some r) : a = b ∧ x = some r := by
  unfold chk at h
  split at h
  · exact ⟨by assumption, h⟩
  · cases h
theorem loc_get {f : Nat → Nat} {ls : List Slot} {i : Nat} {s : Slot} (h : ls[i]? = some s) : ((ls.map (renS f)).toArray)[i]? = some (renS f s) := by
  rw [List.getElem?_toArray, List.getElem?_map, h]; rfl
theorem setAt_ren (f : Nat → Nat) (l : Array Slot) (i : Nat) (x : Slot) : setAt (l.map (renS f)) i (renS f x) = (setAt l i x).map fun a => a.map (renS f) := by
  unfold setAt
  rw [Array.size_map]
  split
  · rw [Option.map_some, Array.map_setIfInBounds]
  · rfl
theorem storeSelf_ren (f : Nat → Nat) (l : Array Slot) (i : Nat) (v : Value) : storeSelf (l.map (renS f)) i (ren f v) = (storeSelf l i v).map fun a => a.map (renS f) := by
  have h0 : setAt (l.map (renS f)) i (.val (ren f v)) = _ := setAt_ren f l i (.val v)
  simp only [storeSelf, h0, ren_cat]
  cases setAt l i (.val v) with
  | none => rfl
  | some l1 =>
    simp only [Option.map_some, Option.bind_eq_bind, Option.bind_some, bind_pure_comp]
    split
    · rw [Array.getElem?_map]
      cases l1[i + 1]? with
      | none => rfl
      | some s =>
        simp only [Option.map_some, Option.bind_some]
        cases s with
        | unset => exact setAt_ren f l1 (i + 1) .second
        | second => exact setAt_ren f l1 (i + 1) .second
        | val w =>
          simp only [renS, ren_cat]
          split
          · have h1 : setAt (l1.map (renS f)) (i + 2) .unset = _ := setAt_ren f l1 (i + 2) .unset
            rw [h1]
            cases setAt l1 (i + 2) .unset with
            | none => rfl
            | some l2 => exact setAt_ren f l2 (i + 1) .second
          · exact setAt_ren f l1 (i + 1) .second
    · rfl
theorem storeLocals_ren (f : Nat → Nat) (l : Array Slot) (i : Nat) (v : Value) : storeLocals (l.map (renS f)) i (ren f v) = (storeLocals l i v).map fun a => a.map (renS f) := by
  simp only [storeLocals, Array.getElem?_map]
  cases l[i]? with
  | none => rfl
  | some s =>
    simp only [Option.map_some, Option.bind_eq_bind, Option.bind_some]
    cases s with
    | unset => exact storeSelf_ren f l i v
    | second =>
      have h1 : setAt (l.map (renS f)) (i - 1) .unset = _ := setAt_ren f l (i - 1) .unset
      simp only [renS, h1]
      cases setAt l (i - 1) .unset with
      | none => rfl
      | some l2 => exact storeSelf_ren f l2 i v
    | val w =>
      simp only [renS, ren_cat]
      split
      · have h1 : setAt (l.map (renS f)) (i + 1) .unset = _ := setAt_ren f l (i + 1) .unset
        rw [h1]
        cases setAt l (i + 1) .unset with
        | none => rfl
        | some l2 => exact storeSelf_ren f l2 i v
      · exact storeSelf_ren f l i v
theorem stl_ren {f : Nat → Nat} {ls l' : List Slot} {i : Nat} {v : Value} (h : stl ls i v = some l') : storeLocals (ls.map (renS f)).toArray i (ren f v) = some (l'.map (renS f)).toArray := by
  unfold stl at h
  obtain ⟨a, ha, rfl⟩ := Option.map_eq_some_iff.mp h
  have := storeLocals_ren f ls.toArray i v
  rw [ha] at this
  rw [← List.map_toArray, this]
  simp [← Array.toList_inj]
theorem setAt_size {l l' : Array Slot} {i : Nat} {x : Slot} (h : setAt l i x = some l') : l'.size = l.size := by
  unfold setAt at h
  split at h
  · cases h; simp
  · cases h
theorem storeSelf_size {l l' : Array Slot} {i : Nat} {v : Value} (h : storeSelf l i v = some l') : l'.size = l.size := by
  simp only [storeSelf, Option.bind_eq_bind, Option.bind_eq_some_iff] at h
  obtain ⟨l1, h1, h⟩ := h
  have e1 := setAt_size h1
  split at h
  · obtain ⟨s, -, h⟩ := Option.bind_eq_some_iff.mp h
    split at h
    · split at h
      · obtain ⟨l2, h2, h⟩ := Option.bind_eq_some_iff.mp h
        rw [setAt_size h, setAt_size h2, e1]
      · rw [setAt_size h, e1]
    · rw [setAt_size h, e1]
  · cases h; exact e1
theorem storeLocals_size {l l' : Array Slot} {i : Nat} {v : Value} (h : storeLocals l i v = some l') : l'.size = l.size := by
  simp only [storeLocals, Option.bind_eq_bind, Option.bind_eq_some_iff] at h
  obtain ⟨s, -, h⟩ := h
  split at h
  · obtain ⟨l2, h2, h⟩ := Option.bind_eq_some_iff.mp h
    rw [storeSelf_size h, setAt_size h2]
  · split at h
    · obtain ⟨l2, h2, h⟩ := Option.bind_eq_some_iff.mp h
      rw [storeSelf_size h, setAt_size h2]
    · exact storeSelf_size h
  · exact storeSelf_size h
theorem stl_size {ls l' : List Slot} {i : Nat} {v : Value} (h : stl ls i v = some l') : l'.length = ls.length := by
  unfold stl at h
  obtain ⟨a, ha, rfl⟩ := Option.map_eq_some_iff.mp h
  have := storeLocals_size ha
  simpa using this
theorem ldV_some {p : Value → Bool} {nx i : Nat} {ls : List Slot} {st : List Value} {q : Nat × List Slot × List Value} (h : ldV p nx i ls st = some q) : ∃ v, ls[i]? = some (.val v) ∧ p v = true ∧ q = (nx, ls, v :: st) := by
  unfold ldV at h
  split at h
  · rename_i v hv
    split at h
    · cases h; exact ⟨v, hv, by assumption, rfl⟩
    · cases h
  · cases h
theorem stV_some {p : Value → Bool} {nx i : Nat} {ls : List Slot} {st : List Value} {q : Nat × List Slot × List Value} (h : stV p nx i ls st = some q) : ∃ v r l', st = v :: r ∧ p v = true ∧ stl ls i v = some l' ∧ q = (nx, l', r) := by
  unfold stV at h
  split at h
  · split at h
    · obtain ⟨l', h1, h2⟩ := Option.map_eq_some_iff.mp h
      exact ⟨_, _, l', rfl, by assumption, h1, h2.symm⟩
    · cases h
  · cases h
theorem b2_some {f : Int32 → Int32 → Int32} {nx : Nat} {ls : List Slot} {st : List Value} {q : Nat × List Slot × List Value} (h : b2 f nx ls st = some q) : ∃ x y r, st = .int y :: .int x :: r ∧ q = (nx, ls, .int (f x y) :: r) := by
  unfold b2 at h
  split at h
  · cases h; exact ⟨_, _, _, rfl, rfl⟩
  · cases h
theorem d2_some {f : Int32 → Int32 → Int32} {nx : Nat} {ls : List Slot} {st : List Value} {q : Nat × List Slot × List Value} (h : d2 f nx ls st = some q) : ∃ x y r, st = .int y :: .int x :: r ∧ y ≠ 0 ∧ q = (nx, ls, .int (f x y) :: r) := by
  unfold d2 at h
  split at h
  · split at h
    · cases h
    · cases h; exact ⟨_, _, _, rfl, by assumption, rfl⟩
  · cases h
theorem u1_some {f : Int32 → Int32} {nx : Nat} {ls : List Slot} {st : List Value} {q : Nat × List Slot × List Value} (h : u1 f nx ls st = some q) : ∃ x r, st = .int x :: r ∧ q = (nx, ls, .int (f x) :: r) := by
  unfold u1 at h
  split at h
  · cases h; exact ⟨_, _, rfl, rfl⟩
  · cases h
theorem l2_some {f : Int64 → Int64 → Int64} {nx : Nat} {ls : List Slot} {st : List Value} {q : Nat × List Slot × List Value} (h : l2 f nx ls st = some q) : ∃ x y r, st = .long y :: .long x :: r ∧ q = (nx, ls, .long (f x y) :: r) := by
  unfold l2 at h
  split at h
  · cases h; exact ⟨_, _, _, rfl, rfl⟩
  · cases h
theorem lsh_some {f : Int64 → Int32 → Int64} {nx : Nat} {ls : List Slot} {st : List Value} {q : Nat × List Slot × List Value} (h : lsh f nx ls st = some q) : ∃ x y r, st = .int y :: .long x :: r ∧ q = (nx, ls, .long (f x y) :: r) := by
  unfold lsh at h
  split at h
  · cases h; exact ⟨_, _, _, rfl, rfl⟩
  · cases h
theorem jmp_some {pc q : Nat} {o : Int} (h : jmp pc o = some q) : 0 ≤ (pc : Int) + o ∧ ((pc : Int) + o).toNat = q := by
  unfold jmp at h
  split at h
  · cases h; exact ⟨by assumption, rfl⟩
  · cases h
theorem br_some {c : Bool} {pc : Nat} {o : Int} {ls : List Slot} {r : List Value} {q : Nat × List Slot × List Value} (h : br c pc o ls r = some q) : (c = true ∧ ∃ t, 0 ≤ (pc : Int) + o ∧ ((pc : Int) + o).toNat = t ∧ q = (t, ls, r)) ∨ (c = false ∧ q = (pc + 3, ls, r)) := by
  unfold br at h
  split at h
  · obtain ⟨t, h1, h2⟩ := Option.map_eq_some_iff.mp h
    obtain ⟨h3, h4⟩ := jmp_some h1
    exact Or.inl ⟨by assumption, t, h3, h4, h2.symm⟩
  · rename_i hc; cases h; exact Or.inr ⟨by simpa using hc, rfl⟩
section X
variable {tb : Tables} [Ours tb] {e : Env} {below : List Frame} {T target : State} {m : MethodId} {c : Code}
set_option maxHeartbeats 4000000 in
theorem xstep_sound (h : At T m c below) (hx : tb.exec = Jvm.exec) (f : Nat → Nat) {ins : Instr} {len pc : Nat} {ls : List Slot} {st : List Value} {q : Nat × List Slot × List Value}
    (hd : decode c.code pc = .ok (ins, len)) (hs : xstep ins len pc ls st = some q) (hr : Steps tb e below (T.setTop (fr f m q.1 q.2.1 q.2.2)) target) : Steps tb e below (T.setTop (fr f m pc ls st)) target := by
  unfold xstep at hs
  split at hs
  · obtain ⟨rfl, hs⟩ := chk_some hs; obtain ⟨v, h1, h2, rfl⟩ := ldV_some hs
    exact XS.aloadN h hx rfl hd (loc_get h1) (by rw [ren_isRef]; exact h2) hr
  · obtain ⟨rfl, hs⟩ := chk_some hs; obtain ⟨v, h1, h2, rfl⟩ := ldV_some hs
    exact XS.aload h hx rfl hd (loc_get h1) (by rw [ren_isRef]; exact h2) hr
  · obtain ⟨rfl, hs⟩ := chk_some hs; obtain ⟨v, h1, h2, rfl⟩ := ldV_some hs; obtain ⟨x, rfl⟩ := isI_int h2
    exact XS.iloadN h hx rfl hd (loc_get (f := f) h1) hr
  · obtain ⟨rfl, hs⟩ := chk_some hs; obtain ⟨v, h1, h2, rfl⟩ := ldV_some hs; obtain ⟨x, rfl⟩ := isI_int h2
    exact XS.iload h hx rfl hd (loc_get (f := f) h1) hr
  · obtain ⟨rfl, hs⟩ := chk_some hs; obtain ⟨v, h1, h2, rfl⟩ := ldV_some hs; obtain ⟨x, rfl⟩ := isL_long h2
    exact XT.lloadN h hx rfl hd (loc_get (f := f) h1) hr
  · obtain ⟨rfl, hs⟩ := chk_some hs; obtain ⟨v, h1, h2, rfl⟩ := ldV_some hs; obtain ⟨x, rfl⟩ := isL_long h2
    exact XT.lload h hx rfl hd (loc_get (f := f) h1) hr
  · obtain ⟨rfl, hs⟩ := chk_some hs; obtain ⟨v, r, l', rfl, h2, h3, rfl⟩ := stV_some hs
    exact XS.astoreN h hx rfl hd rfl (by rw [ren_isRef]; exact h2) (stl_ren h3) hr
  · obtain ⟨rfl, hs⟩ := chk_some hs; obtain ⟨v, r, l', rfl, h2, h3, rfl⟩ := stV_some hs
    exact XS.astore h hx rfl hd rfl (by rw [ren_isRef]; exact h2) (stl_ren h3) hr
  · obtain ⟨rfl, hs⟩ := chk_some hs; obtain ⟨v, r, l', rfl, h2, h3, rfl⟩ := stV_some hs; obtain ⟨x, rfl⟩ := isI_int h2
    exact XS.istoreN h hx rfl hd rfl (stl_ren (f := f) h3) hr
  · obtain ⟨rfl, hs⟩ := chk_some hs; obtain ⟨v, r, l', rfl, h2, h3, rfl⟩ := stV_some hs; obtain ⟨x, rfl⟩ := isI_int h2
    exact XS.istore h hx rfl hd rfl (stl_ren (f := f) h3) hr
  · obtain ⟨rfl, hs⟩ := chk_some hs; obtain ⟨v, r, l', rfl, h2, h3, rfl⟩ := stV_some hs; obtain ⟨x, rfl⟩ := isL_long h2
    exact XT.lstoreN h hx rfl hd rfl (stl_ren (f := f) h3) hr
  · obtain ⟨rfl, hs⟩ := chk_some hs; obtain ⟨v, r, l', rfl, h2, h3, rfl⟩ := stV_some hs; obtain ⟨x, rfl⟩ := isL_long h2
    exact XT.lstore h hx rfl hd rfl (stl_ren (f := f) h3) hr
  · obtain ⟨rfl, hs⟩ := chk_some hs; cases hs
    exact XS.iconst h hx rfl hd hr
  · obtain ⟨rfl, hs⟩ := chk_some hs; cases hs
    exact XS.bipush h hx rfl hd hr
  · obtain ⟨rfl, hs⟩ := chk_some hs; cases hs
    exact XS.sipush h hx rfl hd hr
  · obtain ⟨rfl, hs⟩ := chk_some hs; cases hs
    exact XT.lconst h hx rfl hd hr
  · obtain ⟨rfl, hs⟩ := chk_some hs; obtain ⟨x, y, r, rfl, rfl⟩ := b2_some hs
    exact XS.iadd h hx rfl hd rfl hr
  · obtain ⟨rfl, hs⟩ := chk_some hs; obtain ⟨x, y, r, rfl, rfl⟩ := b2_some hs
    exact XS.isub h hx rfl hd rfl hr
  · obtain ⟨rfl, hs⟩ := chk_some hs; obtain ⟨x, y, r, rfl, rfl⟩ := b2_some hs
    exact XS.imul h hx rfl hd rfl hr
  · obtain ⟨rfl, hs⟩ := chk_some hs; obtain ⟨x, y, r, rfl, rfl⟩ := b2_some hs
    exact XS.iand h hx rfl hd rfl hr
  · obtain ⟨rfl, hs⟩ := chk_some hs; obtain ⟨x, y, r, rfl, rfl⟩ := b2_some hs
    exact XT.ior h hx rfl hd rfl hr
  · obtain ⟨rfl, hs⟩ := chk_some hs; obtain ⟨x, y, r, rfl, rfl⟩ := b2_some hs
    exact XT.ixor h hx rfl hd rfl hr
  · obtain ⟨rfl, hs⟩ := chk_some hs; obtain ⟨x, y, r, rfl, rfl⟩ := b2_some hs
    exact XT.ishl h hx rfl hd rfl hr
  · obtain ⟨rfl, hs⟩ := chk_some hs; obtain ⟨x, y, r, rfl, rfl⟩ := b2_some hs
    exact XT.ishr h hx rfl hd rfl hr
  · obtain ⟨rfl, hs⟩ := chk_some hs; obtain ⟨x, y, r, rfl, rfl⟩ := b2_some hs
    exact XT.iushr h hx rfl hd rfl hr
  · obtain ⟨rfl, hs⟩ := chk_some hs; obtain ⟨x, y, r, rfl, h2, rfl⟩ := d2_some hs
    exact XS.idiv h hx rfl hd rfl h2 hr
  · obtain ⟨rfl, hs⟩ := chk_some hs; obtain ⟨x, y, r, rfl, h2, rfl⟩ := d2_some hs
    refine XS.irem h hx rfl hd rfl h2 ?_
    have q : x - x / y * y = x % y := irem_eq_mod x y
    rw [q]; exact hr
  · obtain ⟨rfl, hs⟩ := chk_some hs; obtain ⟨x, r, rfl, rfl⟩ := u1_some hs
    exact XS.ineg h hx rfl hd rfl hr
  · obtain ⟨rfl, hs⟩ := chk_some hs; obtain ⟨x, r, rfl, rfl⟩ := u1_some hs
    exact XT.i2b h hx rfl hd rfl hr
  · obtain ⟨rfl, hs⟩ := chk_some hs; obtain ⟨x, r, rfl, rfl⟩ := u1_some hs
    exact XT.i2c h hx rfl hd rfl hr
  · obtain ⟨rfl, hs⟩ := chk_some hs; obtain ⟨x, y, r, rfl, rfl⟩ := l2_some hs
    exact XT.ladd h hx rfl hd rfl hr
  · obtain ⟨rfl, hs⟩ := chk_some hs; obtain ⟨x, y, r, rfl, rfl⟩ := l2_some hs
    exact XT.lsub h hx rfl hd rfl hr
  · obtain ⟨rfl, hs⟩ := chk_some hs; obtain ⟨x, y, r, rfl, rfl⟩ := l2_some hs
    exact XT.lmul h hx rfl hd rfl hr
  · obtain ⟨rfl, hs⟩ := chk_some hs; obtain ⟨x, y, r, rfl, rfl⟩ := l2_some hs
    exact XT.land h hx rfl hd rfl hr
  · obtain ⟨rfl, hs⟩ := chk_some hs; obtain ⟨x, y, r, rfl, rfl⟩ := l2_some hs
    exact XT.lor h hx rfl hd rfl hr
  · obtain ⟨rfl, hs⟩ := chk_some hs; obtain ⟨x, y, r, rfl, rfl⟩ := l2_some hs
    exact XT.lxor h hx rfl hd rfl hr
  · obtain ⟨rfl, hs⟩ := chk_some hs; obtain ⟨x, y, r, rfl, rfl⟩ := lsh_some hs
    exact XT.lshl h hx rfl hd rfl hr
  · obtain ⟨rfl, hs⟩ := chk_some hs; obtain ⟨x, y, r, rfl, rfl⟩ := lsh_some hs
    exact XT.lshr h hx rfl hd rfl hr
  · obtain ⟨rfl, hs⟩ := chk_some hs; obtain ⟨x, y, r, rfl, rfl⟩ := lsh_some hs
    exact XT.lushr h hx rfl hd rfl hr
  · obtain ⟨rfl, hs⟩ := chk_some hs
    split at hs
    · cases hs; exact XT.lneg h hx rfl hd rfl hr
    · cases hs
  · obtain ⟨rfl, hs⟩ := chk_some hs
    split at hs
    · cases hs; exact XT.i2l h hx rfl hd rfl hr
    · cases hs
  · obtain ⟨rfl, hs⟩ := chk_some hs
    split at hs
    · cases hs; exact XT.l2i h hx rfl hd rfl hr
    · cases hs
  · obtain ⟨rfl, hs⟩ := chk_some hs
    split at hs
    · cases hs; exact XT.lcmp h hx rfl hd rfl hr
    · cases hs
  · obtain ⟨rfl, hs⟩ := chk_some hs
    split at hs
    · rename_i x h1
      obtain ⟨l', h2, rfl⟩ := Option.map_eq_some_iff.mp hs
      exact XS.iinc h hx rfl hd (loc_get (f := f) h1) (stl_ren (f := f) h2) hr
    · cases hs
  · obtain ⟨rfl, hs⟩ := chk_some hs
    split at hs
    · split at hs
      · rename_i hc; cases hs; exact XS.dup h hx rfl hd rfl (by rw [ren_cat]; exact hc) hr
      · cases hs
    · cases hs
  · obtain ⟨rfl, hs⟩ := chk_some hs
    split at hs
    · cases hs; exact XT.dup2L h hx rfl hd rfl hr
    · split at hs
      · rename_i hc; cases hs; exact XT.dup2 h hx rfl hd rfl (by rw [ren_cat]; exact hc.1) (by rw [ren_cat]; exact hc.2) hr
      · cases hs
    · cases hs
  · obtain ⟨rfl, hs⟩ := chk_some hs
    split at hs
    · split at hs
      · rename_i hc; cases hs; exact XT.pop h hx rfl hd rfl (by rw [ren_cat]; exact hc) hr
      · cases hs
    · cases hs
  · obtain ⟨rfl, hs⟩ := chk_some hs
    obtain ⟨t, h1, rfl⟩ := Option.map_eq_some_iff.mp hs
    obtain ⟨h2, h3⟩ := jmp_some h1
    exact XS.goto h hx rfl rfl hd h2 h3 hr
  · obtain ⟨rfl, hs⟩ := chk_some hs
    split at hs
    · rcases br_some hs with ⟨hc, t, h1, h2, rfl⟩ | ⟨hc, rfl⟩
      · exact XS.ifYes h hx rfl rfl hd rfl hc h1 h2 hr
      · exact XS.ifNo h hx rfl hd rfl hc hr
    · cases hs
  · obtain ⟨rfl, hs⟩ := chk_some hs
    split at hs
    · rcases br_some hs with ⟨hc, t, h1, h2, rfl⟩ | ⟨hc, rfl⟩
      · exact XS.icmpYes h hx rfl rfl hd rfl hc h1 h2 hr
      · exact XS.icmpNo h hx rfl hd rfl hc hr
    · cases hs
  · unfold sw at hs
    split at hs
    · split at hs
      · rename_i hc
        obtain ⟨t, h1, rfl⟩ := Option.map_eq_some_iff.mp hs
        obtain ⟨h2, h3⟩ := jmp_some h1
        exact XS.tswOut h hx rfl rfl hd rfl hc h2 h3 hr
      · rename_i hc
        split at hs
        · rename_i o ho
          obtain ⟨t, h1, rfl⟩ := Option.map_eq_some_iff.mp hs
          obtain ⟨h2, h3⟩ := jmp_some h1
          exact XS.tswIn h hx rfl rfl hd rfl hc ho h2 h3 hr
        · cases hs
    · cases hs
  · cases hs
end X
theorem xstep_size {ins : Instr} {len pc : Nat} {ls : List Slot} {st : List Value} {q : Nat × List Slot × List Value} (hs : xstep ins len pc ls st = some q) : q.2.1.length = ls.length := by
  unfold xstep at hs
  split at hs
  all_goals first
    | (obtain ⟨rfl, hs⟩ := chk_some hs; obtain ⟨v, h1, h2, rfl⟩ := ldV_some hs; rfl)
    | (obtain ⟨rfl, hs⟩ := chk_some hs; obtain ⟨v, r, l', rfl, h2, h3, rfl⟩ := stV_some hs; exact stl_size h3)
    | (obtain ⟨rfl, hs⟩ := chk_some hs; cases hs; rfl)
    | (obtain ⟨rfl, hs⟩ := chk_some hs; obtain ⟨x, y, r, rfl, rfl⟩ := b2_some hs; rfl)
    | (obtain ⟨rfl, hs⟩ := chk_some hs; obtain ⟨x, y, r, rfl, h2, rfl⟩ := d2_some hs; rfl)
    | (obtain ⟨rfl, hs⟩ := chk_some hs; obtain ⟨x, r, rfl, rfl⟩ := u1_some hs; rfl)
    | (obtain ⟨rfl, hs⟩ := chk_some hs; obtain ⟨x, y, r, rfl, rfl⟩ := l2_some hs; rfl)
    | (obtain ⟨rfl, hs⟩ := chk_some hs; obtain ⟨x, y, r, rfl, rfl⟩ := lsh_some hs; rfl)
    | (obtain ⟨rfl, hs⟩ := chk_some hs; split at hs <;> first | (cases hs; rfl) | (cases hs; done))
    | (obtain ⟨rfl, hs⟩ := chk_some hs; split at hs <;> first | (obtain ⟨l', h2, rfl⟩ := Option.map_eq_some_iff.mp hs; exact stl_size h2) | (cases hs; done))
    | (obtain ⟨rfl, hs⟩ := chk_some hs; split at hs <;> first | (split at hs <;> first | (cases hs; rfl) | (cases hs; done)) | (cases hs; rfl) | (cases hs; done))
    | (obtain ⟨rfl, hs⟩ := chk_some hs; obtain ⟨t, h1, rfl⟩ := Option.map_eq_some_iff.mp hs; rfl)
    | (obtain ⟨rfl, hs⟩ := chk_some hs; split at hs <;> first | (rcases br_some hs with ⟨hc, t, h1, h2, rfl⟩ | ⟨hc, rfl⟩ <;> rfl) | (cases hs; done))
    | (unfold sw at hs; split at hs <;> first | (cases hs; done) | (split at hs <;> first | (obtain ⟨t, h1, rfl⟩ := Option.map_eq_some_iff.mp hs; rfl) | (split at hs <;> first | (obtain ⟨t, h1, rfl⟩ := Option.map_eq_some_iff.mp hs; rfl) | (cases hs; done))))
    | (cases hs; done)
end Jvm.Own
namespace Jvm.Own
open Sem ClassFile Op Lib Jvm.Stand Jvm.Free Jvm.LawKit Jvm.RoadKit
/-! OWN 4: the heap's steps -/
def adr (k sa n0 i : Nat) : Nat := if i < k then sa else n0 + (i - k)
def SimO (Z : State) (ws : Ws) (f : Nat → Nat) (h : Heap) (a : Addr) : FieldType × List Value → Prop
  | (.object C, vs) => Exa Z h a C ∧ ∀ n t j, fidx ws C n t = some j → ∃ v, vs[j]? = some v ∧ Fld Z h a C n t (ren f v)
  | (.array ty, vs) => ∃ c : Cell, Arr Z h a c ty ∧ c.slots = (vs.map (ren f)).toArray
  | _ => False
def Sim (Z : State) (ws : Ws) (k sa n0 : Nat) (H : AHeap) (h : Heap) : Prop :=
  h.size = n0 + (H.length - k) ∧ k ≤ H.length ∧ k ≤ 1 ∧ (1 ≤ k → sa < n0) ∧ ∀ i o, H[i]? = some o → SimO Z ws (adr k sa n0) h (adr k sa n0 i) o
def cost (ws : Ws) : FieldType × List Value → Nat
  | (.object C, _) => (rInst ws C).getD 0
  | (_, vs) => vs.length
def tot (ws : Ws) (H : AHeap) : Nat := (H.map (cost ws)).sum
theorem adr_inj {k sa n0 i j : Nat} (hk : k ≤ 1) (hs : 1 ≤ k → sa < n0) (e : adr k sa n0 i = adr k sa n0 j) : i = j := by
  unfold adr at e; split at e <;> split at e <;> omega
theorem adr_ge {k sa n0 a : Nat} (h : k ≤ a) : n0 ≤ adr k sa n0 a := by
  unfold adr; rw [if_neg (by omega)]; omega
theorem tot_app (ws : Ws) (H : AHeap) (o : FieldType × List Value) : tot ws (H ++ [o]) = tot ws H + cost ws o := by simp [tot]
theorem tot_set {ws : Ws} : ∀ {H : AHeap} {a : Nat} {o o' : FieldType × List Value}, H[a]? = some o → cost ws o' = cost ws o → tot ws (H.set a o') = tot ws H
  | [], _, _, _, h, _ => by cases h
  | x :: r, 0, o, o', h, e => by
    simp only [List.getElem?_cons_zero, Option.some.injEq] at h; subst h
    simp [tot, e]
  | x :: r, a + 1, o, o', h, e => by
    have := tot_set (ws := ws) (H := r) (a := a) (o := o) (o' := o') (by simpa using h) e
    simp only [tot, List.set_cons_succ, List.map_cons, List.sum_cons] at this ⊢
    rw [this]
theorem ren_dflt (f : Nat → Nat) (ty : FieldType) : ren f (defaultValue ty) = defaultValue ty := by cases ty <;> rfl
section Facts
variable {Z : State} {ws : Ws} {f : Nat → Nat} {h h' : Heap} {a b : Addr} {o : FieldType × List Value} {sl : Nat} {v : Value}
theorem SimO.ext (E : Ext h h') (S : SimO Z ws f h a o) : SimO Z ws f h' a o := by
  unfold SimO at S ⊢
  split at S
  · exact ⟨S.1.ext E, fun n t j q => by obtain ⟨v, h1, h2⟩ := S.2 n t j q; exact ⟨v, h1, h2.ext E⟩⟩
  · obtain ⟨c, h1, h2⟩ := S; exact ⟨c, h1.ext E, h2⟩
  · exact S.elim
theorem SimO.other (W : Wr h h' b sl v) (ne : a ≠ b) (S : SimO Z ws f h a o) : SimO Z ws f h' a o := by
  unfold SimO at S ⊢
  split at S
  · exact ⟨S.1.wr W, fun n t j q => by obtain ⟨v, h1, h2⟩ := S.2 n t j q; exact ⟨v, h1, h2.other W (Or.inl ne)⟩⟩
  · obtain ⟨c, h1, h2⟩ := S; exact ⟨c, h1.other W ne, h2⟩
  · exact S.elim
theorem Sim.push {k sa n0 : Nat} {H : AHeap} (S : Sim Z ws k sa n0 H h) (E : Ext h h') (hz : h'.size = h.size + 1) (O : SimO Z ws (adr k sa n0) h' h.size o) : Sim Z ws k sa n0 (H ++ [o]) h' := by
  obtain ⟨h1, h2, h3, h4, h5⟩ := S
  refine ⟨by rw [hz, h1, List.length_append, List.length_singleton]; omega, by rw [List.length_append]; omega, h3, h4, fun i o' q => ?_⟩
  rcases Nat.lt_trichotomy i H.length with g | g | g
  · rw [List.getElem?_append_left g] at q; exact (h5 i o' q).ext E
  · subst g
    rw [List.getElem?_append_right (Nat.le_refl _), Nat.sub_self] at q
    cases q
    have e : adr k sa n0 H.length = h.size := by unfold adr; rw [if_neg (by omega), h1]
    rw [e]; exact O
  · rw [List.getElem?_eq_none (by simp; omega)] at q; cases q
theorem Sim.next {k sa n0 : Nat} {H : AHeap} (S : Sim Z ws k sa n0 H h) : h.size = adr k sa n0 H.length := by
  obtain ⟨h1, h2, -⟩ := S
  unfold adr; rw [if_neg (by omega), h1]
theorem Wr.upd {k sa n0 i : Nat} {H : AHeap} {o' : FieldType × List Value} (S : Sim Z ws k sa n0 H h) (W : Wr h h' (adr k sa n0 i) sl v) (O : SimO Z ws (adr k sa n0) h' (adr k sa n0 i) o') : Sim Z ws k sa n0 (H.set i o') h' := by
  obtain ⟨h1, h2, h3, h4, h5⟩ := S
  refine ⟨by rw [W.size, h1, List.length_set], by rw [List.length_set]; exact h2, h3, h4, fun j q hq => ?_⟩
  by_cases e : i = j
  · subst e
    rw [List.getElem?_set_self' ] at hq
    cases hi : H[i]? with
    | none => rw [hi] at hq; cases hq
    | some x => rw [hi] at hq; cases hq; exact O
  · rw [List.getElem?_set_ne e] at hq
    exact (h5 j q hq).other W fun g => e (adr_inj h3 h4 g).symm
end Facts
theorem putv_ok {ty : FieldType} {v v' : Value} (f : Nat → Nat) (h : putv ty v = some v') : narrow ty (ren f v) = ren f v' ∧ fits ty (ren f v') = true := by
  unfold putv at h
  split at h
  · cases h; exact ⟨rfl, rfl⟩
  · cases h; exact ⟨rfl, fits_nar_bool _⟩
  · cases h; exact ⟨rfl, fits_nar_byte _⟩
  · cases h; exact ⟨rfl, fits_nar_char _⟩
  · cases h; exact ⟨rfl, fits_nar_short _⟩
  · cases h; exact ⟨rfl, rfl⟩
  · cases h; exact ⟨rfl, rfl⟩
  · cases h
theorem size_set (c : Cell) (j : Nat) (v : Value) (f : Nat → Nat) {vs : List Value} {v' : Value} (e : c.slots = (vs.map (ren f)).toArray) (q : v = ren f v') : (c.setSlot j v).slots = ((vs.set j v').map (ren f)).toArray := by
  subst q
  show c.slots.setIfInBounds j (ren f v') = _
  rw [e, List.setIfInBounds_toArray, List.map_set]
section H
variable {p : Program} {l : Launch} {e : Env} {R : Room} {s : State} {m : MethodId} {args : Array Value} {below : List Frame} {meth : Method} {c : Code} {T : State} {locs : List Loc} {cells slots : Nat}
  {Z : State} {a0 : Array Value} {ws : Ws} {k sa n0 : Nat} {y : MethodName} {pc : Nat} {ls : List Slot} {st : List Value} {H : AHeap}
/-- the point behind one step -/
def Beh (p : Program) (l : Launch) (e : Env) (R : Room) (s : State) (m : MethodId) (args : Array Value) (below : List Frame) (meth : Method) (c : Code) (T : State) (Z : State) (ws : Ws) (k sa n0 cells slots : Nat) (H : AHeap) (g : JFrame) (pc' : Nat) (ls' : List Slot) (st' : List Value) (H' : AHeap) : Prop :=
  ∃ T' locs', Stand p l e R s m args below meth c T' locs' (cells + (H'.length - H.length)) (slots + (tot ws H' - tot ws H)) ∧ Sim Z ws k sa n0 H' T'.heap ∧ Fr n0 locs' ∧
    ∀ target, Steps p.tables e below (T'.setTop (fr (adr k sa n0) m pc' ls' st')) target → Steps p.tables e below (T.setTop g) target
theorem Beh.stay {g : JFrame} {pc' : Nat} {st' : List Value} {T' : State} (X : Stand p l e R s m args below meth c T' locs cells slots) (S : Sim Z ws k sa n0 H T'.heap) (N : Fr n0 locs)
    (h : ∀ target, Steps p.tables e below (T'.setTop (fr (adr k sa n0) m pc' ls st')) target → Steps p.tables e below (T.setTop g) target) : Beh p l e R s m args below meth c T Z ws k sa n0 cells slots H g pc' ls st' H :=
  ⟨T', locs, by rw [Nat.sub_self, Nat.sub_self]; exact X, S, N, h⟩
theorem hGet_sound (hw : ∀ d ∈ ws, d.before a0 Z = true) (X : Stand p l e R s m args below meth c T locs cells slots) (hx : p.tables.exec = Jvm.exec) (hZ : Z.Warmed39 s.vm) (hown : s.vm.findClass y.cls = some m.cls)
    {i : Nat} (hd : decode c.code pc = .ok (.getfield i, 3)) {q : Nat × List Value × AHeap} (hs : hGet ws y.cls i pc H st = some q) (S : Sim Z ws k sa n0 H T.heap) (N : Fr n0 locs) :
    Beh p l e R s m args below meth c T Z ws k sa n0 cells slots H (fr (adr k sa n0) m pc ls st) q.1 ls q.2.1 q.2.2 := by
  unfold hGet at hs
  split at hs
  · rename_i a r
    split at hs
    · rename_i C j C' vs q1 q2
      split at hs
      · rename_i hC; subst hC
        obtain ⟨v, hv, rfl⟩ := Option.map_eq_some_iff.mp hs
        obtain ⟨n, t, r1, r2⟩ := gfR_some q1
        obtain ⟨v', hv', F⟩ := (S.2.2.2.2 a _ q2).2 n t j r2
        cases hv.symm.trans hv'
        obtain ⟨T', X', e', st'⟩ := getF X hx hZ hown (host := "") (Or.inl (hw _ (rFld_mem r1))) Via.refl rfl F (g := fr (adr k sa n0) m pc ls (.ref a :: r)) rfl rfl hd
        exact Beh.stay X' (by rw [e']; exact S) N st'
      · cases hs
    · cases hs
  · cases hs
theorem hPut_sound (hw : ∀ d ∈ ws, d.before a0 Z = true) (X : Stand p l e R s m args below meth c T locs cells slots) (hx : p.tables.exec = Jvm.exec) (hZ : Z.Warmed39 s.vm) (hown : s.vm.findClass y.cls = some m.cls) (hnm : meth.name = y.name)
    {i : Nat} (hd : decode c.code pc = .ok (.putfield i, 3)) {q : Nat × List Value × AHeap} (hs : hPut ws k y.cls y.name i pc H st = some q) (S : Sim Z ws k sa n0 H T.heap) (N : Fr n0 locs) :
    Beh p l e R s m args below meth c T Z ws k sa n0 cells slots H (fr (adr k sa n0) m pc ls st) q.1 ls q.2.1 q.2.2 := by
  unfold hPut at hs
  split at hs
  · rename_i v a r
    split at hs
    · rename_i C j ty C' vs q1 q2
      split at hs
      · rename_i hC; obtain ⟨rfl, hk, hj⟩ := hC
        obtain ⟨v', hv, rfl⟩ := Option.map_eq_some_iff.mp hs
        obtain ⟨n, t, r1, r2, r3, r4, ⟨ki, r5⟩, r6⟩ := pfR_some q1
        have SO := S.2.2.2.2 a _ q2
        obtain ⟨w, hw', F⟩ := SO.2 n t j r2
        obtain ⟨g1, g2⟩ := putv_ok (adr k sa n0) hv
        obtain ⟨T', h', X', e', W, st'⟩ := putFN X hx hZ hown (hw _ (rFld_mem r1)) Via.refl rfl F SO.1 (r4.imp (fun q => hw _ q) fun q => ⟨hw _ q.1, q.2.1, hnm.trans q.2.2⟩) (hw _ r5) r3 g1 g2 (g := fr (adr k sa n0) m pc ls (v :: .ref a :: r)) rfl rfl hd
        have LL : ∀ {n' t' : String}, (n', t') ∈ olay ws C → Laid Z a0 C C n' t' := fun q => (lay_mem q).1.imp (fun q => hw _ q) (fun q => hw _ q)
        have O' : SimO Z ws (adr k sa n0) h' (adr k sa n0 a) (.object C, vs.set j v') := by
          refine ⟨SO.1.wr W, fun n' t' j' q' => ?_⟩
          obtain ⟨u, hu, F'⟩ := SO.2 n' t' j' q'
          by_cases ej : j = j'
          · subst ej
            obtain ⟨rfl, rfl⟩ := fidx_inj r2 q'
            exact ⟨v', by rw [List.getElem?_set_self hj], F.same W⟩
          · refine ⟨u, by rw [List.getElem?_set_ne ej]; exact hu, F'.other W (Or.inr ?_)⟩
            obtain ⟨-, ty', p'⟩ := lay_mem (fidx_mem q')
            refine slot_ne (LL (fidx_mem q')) (LL (fidx_mem r2)) (fun en => ?_) p' r3
            rcases r6 n' t' (fidx_mem q') with g | g
            · exact g en
            · subst en g; rw [r2] at q'; exact ej (Option.some.inj q')
        refine ⟨T', _, ?_, by rw [e']; exact Wr.upd S W O', Fr.snoc X' N (adr_ge hk), st'⟩
        show Stand p l e R s m args below meth c T' _ (cells + ((H.set a (.object C, vs.set j v')).length - H.length)) (slots + (tot ws (H.set a (.object C, vs.set j v')) - tot ws H))
        rw [List.length_set, tot_set (o := (.object C, vs)) (o' := (.object C, vs.set j v')) q2 rfl, Nat.sub_self, Nat.sub_self]
        exact X'
      · cases hs
    · cases hs
  · cases hs
theorem hNew_sound (hw : ∀ d ∈ ws, d.before a0 Z = true) (X : Stand p l e R s m args below meth c T locs cells slots) (hx : p.tables.exec = Jvm.exec) (hZ : Z.Warmed39 s.vm) (hown : s.vm.findClass y.cls = some m.cls)
    {i : Nat} (hd : decode c.code pc = .ok (.new i, 3)) {q : Nat × List Value × AHeap} (hs : hNew ws y.cls i pc H st = some q) (S : Sim Z ws k sa n0 H T.heap) (N : Fr n0 locs)
    (hc : cells + (q.2.2.length - H.length) ≤ R.cells) (hl : slots + (tot ws q.2.2 - tot ws H) ≤ R.slots) (hz0 : T.heap.size = s.heap.size + cells) :
    Beh p l e R s m args below meth c T Z ws k sa n0 cells slots H (fr (adr k sa n0) m pc ls st) q.1 ls q.2.1 q.2.2 := by
  unfold hNew at hs
  split at hs
  · rename_i C q1
    split at hs
    · rename_i g; cases hs
      obtain ⟨ki, hki⟩ := Option.isSome_iff_exists.mp g.1
      have ec : (H ++ [(FieldType.object C, (olay ws C).map dflt)]).length - H.length = 1 := by simp
      have es : tot ws (H ++ [(FieldType.object C, (olay ws C).map dflt)]) - tot ws H = ki := by
        rw [tot_app]; simp [cost, hki]
      dsimp only at hc hl ⊢
      rw [ec] at hc; rw [es] at hl
      have hz := S.next
      obtain ⟨T', h', X', e', E, A, D, -, st'⟩ := newO X hx hZ hown (hw _ (rCls_mem q1)) (hw _ (rInst_mem hki)) (hw _ (hasInit_mem g.2)) rfl (g := fr (adr k sa n0) m pc ls st) rfl hd hc hl
      have hz' : h'.size = T.heap.size + 1 := by
        have u1 := X'.heapSize
        have a1 : (T.heap.size : Nat) < h'.size := A.lt
        rw [e'] at u1
        omega
      refine ⟨T', locs, by rw [ec, es]; exact X', ?_, N, ?_⟩
      · rw [e']
        refine S.push E hz' ⟨A, fun n t j q => ?_⟩
        have hm := fidx_mem q
        obtain ⟨q2, ty, q3⟩ := lay_mem hm
        refine ⟨dflt (n, t), by rw [List.getElem?_map, idx_get q]; rfl, ?_⟩
        have F := D (O := C) (nm := n) (d := t) (q2.imp (fun q => hw _ q) (fun q => hw _ q)) q3
        have e3 : ren (adr k sa n0) (dflt (n, t)) = defaultValue ty := by simp only [dflt, q3, ren_dflt]
        rw [e3]; exact F
      · intro target ht
        rw [hz] at st'
        exact st' target ht
    · cases hs
  · cases hs
theorem hNewA_sound (hw : ∀ d ∈ ws, d.before a0 Z = true) (X : Stand p l e R s m args below meth c T locs cells slots) (hx : p.tables.exec = Jvm.exec) (hZ : Z.Warmed39 s.vm)
    {aty : ArrayType} (hd : decode c.code pc = .ok (.newarray aty, 2)) {q : Nat × List Value × AHeap} (hs : hNewA ws aty pc H st = some q) (S : Sim Z ws k sa n0 H T.heap) (N : Fr n0 locs)
    (hc : cells + (q.2.2.length - H.length) ≤ R.cells) (hl : slots + (tot ws q.2.2 - tot ws H) ≤ R.slots) (hz0 : T.heap.size = s.heap.size + cells) :
    Beh p l e R s m args below meth c T Z ws k sa n0 cells slots H (fr (adr k sa n0) m pc ls st) q.1 ls q.2.1 q.2.2 := by
  unfold hNewA at hs
  split at hs
  · rename_i n r
    split at hs
    · rename_i g; cases hs
      obtain ⟨g1, g2, g3⟩ := g
      have ec : (H ++ [(FieldType.array (newarray.typeOf aty), List.replicate n.toNatClampNeg (defaultValue (newarray.typeOf aty)))]).length - H.length = 1 := by simp
      have es : tot ws (H ++ [(FieldType.array (newarray.typeOf aty), List.replicate n.toNatClampNeg (defaultValue (newarray.typeOf aty)))]) - tot ws H = n.toNatClampNeg := by
        rw [tot_app]; simp [cost]
      dsimp only at hc hl ⊢
      rw [ec] at hc; rw [es] at hl
      have hz := S.next
      obtain ⟨T', h', cA, X', e', E, A, st'⟩ := newP X hx hZ (hw _ (hasArr_mem g1)) rfl (g := fr (adr k sa n0) m pc ls (.int n :: r)) rfl hd rfl g2 (cap := n.toNatClampNeg) (Nat.le_refl _) g3 hc hl
      have hz' : h'.size = T.heap.size + 1 := by
        have u1 := X'.heapSize
        have a1 : (T.heap.size : Nat) < h'.size := A.lt
        rw [e'] at u1
        omega
      refine ⟨T', locs, by rw [ec, es]; exact X', ?_, N, ?_⟩
      · rw [e']
        refine S.push E hz' ⟨_, A, ?_⟩
        simp [newA, ren_dflt]
      · intro target ht
        rw [hz] at st'
        exact st' target ht
    · cases hs
  · cases hs
theorem hLd_some {ok : FieldType → Bool} {q : Nat × List Value × AHeap} (hs : hLd ok pc H st = some q) : ∃ j a r ty vs v, st = .int j :: .ref a :: r ∧ H[a]? = some (.array ty, vs) ∧ ok ty = true ∧ ¬ j < 0 ∧ vs[j.toNatClampNeg]? = some v ∧ q = (pc + 1, v :: r, H) := by
  unfold hLd at hs
  split at hs
  · split at hs
    · split at hs
      · rename_i g
        obtain ⟨v, h1, h2⟩ := Option.map_eq_some_iff.mp hs
        exact ⟨_, _, _, _, _, v, rfl, by assumption, g.1, g.2, h1, h2.symm⟩
      · cases hs
    · cases hs
  · cases hs
theorem hSt_some {ok : FieldType → Bool} {q : Nat × List Value × AHeap} (hs : hSt ok k pc H st = some q) : ∃ v j a r ty vs v', st = v :: .int j :: .ref a :: r ∧ H[a]? = some (.array ty, vs) ∧ ok ty = true ∧ k ≤ a ∧ ¬ j < 0 ∧ j.toNatClampNeg < vs.length ∧ putv ty v = some v' ∧ q = (pc + 1, r, H.set a (.array ty, vs.set j.toNatClampNeg v')) := by
  unfold hSt at hs
  split at hs
  · split at hs
    · split at hs
      · rename_i g
        obtain ⟨v, h1, h2⟩ := Option.map_eq_some_iff.mp hs
        exact ⟨_, _, _, _, _, _, v, rfl, by assumption, g.1, g.2.1, g.2.2.1, g.2.2.2, h1, h2.symm⟩
      · cases hs
    · cases hs
  · cases hs
theorem hLen_some {q : Nat × List Value × AHeap} (hs : hLen pc H st = some q) : ∃ a r ty vs, st = .ref a :: r ∧ H[a]? = some (.array ty, vs) ∧ q = (pc + 1, .int vs.length.toInt32 :: r, H) := by
  unfold hLen at hs
  split at hs
  · split at hs
    · cases hs; exact ⟨_, _, _, _, rfl, by assumption, rfl⟩
    · cases hs
  · cases hs
/-- behind a store into an array -/
theorem st_beh {T' : State} {h' : Heap} {a j : Nat} {ty : FieldType} {vs : List Value} {v' : Value} {r : List Value} {g : JFrame} (X' : Stand p l e R s m args below meth c T' (locs ++ [⟨adr k sa n0 a, j⟩]) cells slots) (e' : T'.heap = h') (W : Wr T.heap h' (adr k sa n0 a) j (ren (adr k sa n0) v'))
    (S : Sim Z ws k sa n0 H T.heap) (N : Fr n0 locs) (q2 : H[a]? = some (.array ty, vs)) (hk : k ≤ a)
    (st' : ∀ target, Steps p.tables e below (T'.setTop (fr (adr k sa n0) m (pc + 1) ls r)) target → Steps p.tables e below (T.setTop g) target) :
    Beh p l e R s m args below meth c T Z ws k sa n0 cells slots H g (pc + 1) ls r (H.set a (.array ty, vs.set j v')) := by
  obtain ⟨cl, A, es⟩ := S.2.2.2.2 a _ q2
  refine ⟨T', _, ?_, by rw [e']; exact Wr.upd S W ⟨_, A.same W, size_set cl j _ _ es rfl⟩, Fr.snoc X' N (adr_ge hk), st'⟩
  rw [List.length_set, tot_set (o := (.array ty, vs)) (o' := (.array ty, vs.set j v')) q2 (by simp [cost]), Nat.sub_self, Nat.sub_self]
  exact X'
set_option maxHeartbeats 1000000 in
theorem hstep_sound (hw : ∀ d ∈ ws, d.before a0 Z = true) (X : Stand p l e R s m args below meth c T locs cells slots) (hx : p.tables.exec = Jvm.exec) (hZ : Z.Warmed39 s.vm) (hown : s.vm.findClass y.cls = some m.cls) (hnm : meth.name = y.name)
    {ins : Instr} {len : Nat} (hd : decode c.code pc = .ok (ins, len)) {q : Nat × List Value × AHeap} (hs : hstep ws k y ins len pc st H = some q) (S : Sim Z ws k sa n0 H T.heap) (N : Fr n0 locs)
    (hc : cells + (q.2.2.length - H.length) ≤ R.cells) (hl : slots + (tot ws q.2.2 - tot ws H) ≤ R.slots) (hz0 : T.heap.size = s.heap.size + cells) :
    Beh p l e R s m args below meth c T Z ws k sa n0 cells slots H (fr (adr k sa n0) m pc ls st) q.1 ls q.2.1 q.2.2 := by
  unfold hstep at hs
  split at hs
  · obtain ⟨rfl, hs⟩ := chk_some hs
    exact hGet_sound hw X hx hZ hown hd hs S N
  · obtain ⟨rfl, hs⟩ := chk_some hs
    exact hPut_sound hw X hx hZ hown hnm hd hs S N
  · obtain ⟨rfl, hs⟩ := chk_some hs
    exact hNew_sound hw X hx hZ hown hd hs S N hc hl hz0
  · obtain ⟨rfl, hs⟩ := chk_some hs
    exact hNewA_sound hw X hx hZ hd hs S N hc hl hz0
  · obtain ⟨rfl, hs⟩ := chk_some hs
    obtain ⟨j, a, r, ty, vs, v, rfl, q2, ho, hj, hv, rfl⟩ := hLd_some hs
    obtain rfl : ty = _ := of_decide_eq_true ho
    obtain ⟨cl, A, es⟩ := S.2.2.2.2 a _ q2
    have hlt := (List.getElem?_eq_some_iff.mp hv).1
    exact Beh.stay X S N fun target ht => X.iaload hx (j := j) (v := ren (adr k sa n0) v) A.1 (State.isArrayOf_alike hZ.alike A.2.1) A.2.2 (fun g => g.elim hj fun g => by rw [es] at g; simp at g; omega) (by rw [es, List.getElem?_toArray, List.getElem?_map, hv]; rfl) (g := fr (adr k sa n0) m pc ls (.int j :: .ref a :: r)) rfl rfl hd target ht
  · obtain ⟨rfl, hs⟩ := chk_some hs
    obtain ⟨j, a, r, ty, vs, v, rfl, q2, ho, hj, hv, rfl⟩ := hLd_some hs
    obtain rfl : ty = _ := of_decide_eq_true ho
    obtain ⟨cl, A, es⟩ := S.2.2.2.2 a _ q2
    have hlt := (List.getElem?_eq_some_iff.mp hv).1
    exact Beh.stay X S N fun target ht => X.caload hx (j := j) (v := ren (adr k sa n0) v) A.1 (State.isArrayOf_alike hZ.alike A.2.1) A.2.2 (fun g => g.elim hj fun g => by rw [es] at g; simp at g; omega) (by rw [es, List.getElem?_toArray, List.getElem?_map, hv]; rfl) (g := fr (adr k sa n0) m pc ls (.int j :: .ref a :: r)) rfl rfl hd target ht
  · obtain ⟨rfl, hs⟩ := chk_some hs
    obtain ⟨j, a, r, ty, vs, v, rfl, q2, ho, hj, hv, rfl⟩ := hLd_some hs
    obtain rfl : ty = _ := of_decide_eq_true ho
    obtain ⟨cl, A, es⟩ := S.2.2.2.2 a _ q2
    have hlt := (List.getElem?_eq_some_iff.mp hv).1
    exact Beh.stay X S N fun target ht => X.laload hx (j := j) (v := ren (adr k sa n0) v) A.1 (State.isArrayOf_alike hZ.alike A.2.1) A.2.2 (fun g => g.elim hj fun g => by rw [es] at g; simp at g; omega) (by rw [es, List.getElem?_toArray, List.getElem?_map, hv]; rfl) (g := fr (adr k sa n0) m pc ls (.int j :: .ref a :: r)) rfl rfl hd target ht
  · obtain ⟨rfl, hs⟩ := chk_some hs
    obtain ⟨j, a, r, ty, vs, v, rfl, q2, ho, hj, hv, rfl⟩ := hLd_some hs
    obtain ⟨cl, A, es⟩ := S.2.2.2.2 a _ q2
    have hlt := (List.getElem?_eq_some_iff.mp hv).1
    simp only [okB, Bool.or_eq_true, decide_eq_true_eq] at ho
    rcases ho with rfl | rfl
    · exact Beh.stay X S N fun target ht => X.baloadBytes hx (j := j) (v := ren (adr k sa n0) v) A.1 (State.isArrayOf_alike hZ.alike A.2.1) A.2.2 (fun g => g.elim hj fun g => by rw [es] at g; simp at g; omega) (by rw [es, List.getElem?_toArray, List.getElem?_map, hv]; rfl) (g := fr (adr k sa n0) m pc ls (.int j :: .ref a :: r)) rfl rfl hd target ht
    · exact Beh.stay X S N fun target ht => X.baloadBooleans hx (j := j) (v := ren (adr k sa n0) v) A.1 (State.isArrayOf_alike hZ.alike A.2.1) A.2.2 (fun g => g.elim hj fun g => by rw [es] at g; simp at g; omega) (by rw [es, List.getElem?_toArray, List.getElem?_map, hv]; rfl) (g := fr (adr k sa n0) m pc ls (.int j :: .ref a :: r)) rfl rfl hd target ht
  · obtain ⟨rfl, hs⟩ := chk_some hs
    obtain ⟨v, j, a, r, ty, vs, v', rfl, q2, ho, hk, hj, hlt, hv, rfl⟩ := hSt_some hs
    obtain rfl : ty = _ := of_decide_eq_true ho
    obtain ⟨cl, A, es⟩ := S.2.2.2.2 a _ q2
    cases v <;> simp only [putv, Option.some.injEq, reduceCtorEq] at hv
    subst hv
    obtain ⟨T', h', X', e', W, st'⟩ := stI X hx hZ rfl A (j := j) (fun g => g.elim hj fun g => by rw [es] at g; simp at g; omega) (g := fr (adr k sa n0) m pc ls (.int _ :: .int j :: .ref a :: r)) rfl rfl hd
    exact st_beh X' e' W S N q2 hk st'
  · obtain ⟨rfl, hs⟩ := chk_some hs
    obtain ⟨v, j, a, r, ty, vs, v', rfl, q2, ho, hk, hj, hlt, hv, rfl⟩ := hSt_some hs
    obtain rfl : ty = _ := of_decide_eq_true ho
    obtain ⟨cl, A, es⟩ := S.2.2.2.2 a _ q2
    cases v <;> simp only [putv, Option.some.injEq, reduceCtorEq] at hv
    subst hv
    obtain ⟨T', h', X', e', W, st'⟩ := stC X hx hZ rfl A (j := j) (fun g => g.elim hj fun g => by rw [es] at g; simp at g; omega) (g := fr (adr k sa n0) m pc ls (.int _ :: .int j :: .ref a :: r)) rfl rfl hd
    exact st_beh X' e' W S N q2 hk st'
  · obtain ⟨rfl, hs⟩ := chk_some hs
    obtain ⟨v, j, a, r, ty, vs, v', rfl, q2, ho, hk, hj, hlt, hv, rfl⟩ := hSt_some hs
    obtain rfl : ty = _ := of_decide_eq_true ho
    obtain ⟨cl, A, es⟩ := S.2.2.2.2 a _ q2
    cases v <;> simp only [putv, Option.some.injEq, reduceCtorEq] at hv
    subst hv
    obtain ⟨T', h', X', e', W, st'⟩ := stJ X hx hZ rfl A (j := j) (fun g => g.elim hj fun g => by rw [es] at g; simp at g; omega) (g := fr (adr k sa n0) m pc ls (.long _ :: .int j :: .ref a :: r)) rfl rfl hd
    exact st_beh X' e' W S N q2 hk st'
  · obtain ⟨rfl, hs⟩ := chk_some hs
    obtain ⟨v, j, a, r, ty, vs, v', rfl, q2, ho, hk, hj, hlt, hv, rfl⟩ := hSt_some hs
    obtain ⟨cl, A, es⟩ := S.2.2.2.2 a _ q2
    simp only [okB, Bool.or_eq_true, decide_eq_true_eq] at ho
    rcases ho with rfl | rfl
    · cases v <;> simp only [putv, Option.some.injEq, reduceCtorEq] at hv
      subst hv
      obtain ⟨T', h', X', e', W, st'⟩ := stB X hx hZ rfl A (j := j) (fun g => g.elim hj fun g => by rw [es] at g; simp at g; omega) (g := fr (adr k sa n0) m pc ls (.int _ :: .int j :: .ref a :: r)) rfl rfl hd
      exact st_beh X' e' W S N q2 hk st'
    · cases v <;> simp only [putv, Option.some.injEq, reduceCtorEq] at hv
      subst hv
      obtain ⟨T', h', X', e', W, st'⟩ := stZ X hx hZ rfl A (j := j) (fun g => g.elim hj fun g => by rw [es] at g; simp at g; omega) (g := fr (adr k sa n0) m pc ls (.int _ :: .int j :: .ref a :: r)) rfl rfl hd
      exact st_beh X' e' W S N q2 hk st'
  · obtain ⟨rfl, hs⟩ := chk_some hs
    obtain ⟨a, r, ty, vs, rfl, q2, rfl⟩ := hLen_some hs
    obtain ⟨cl, A, es⟩ := S.2.2.2.2 a _ q2
    have ez : cl.slots.size = vs.length := by rw [es]; simp
    refine Beh.stay X S N fun target ht => X.arraylength hx (cell := cl) A.1 (State.isArrayOf_alike hZ.alike A.2.1) (g := fr (adr k sa n0) m pc ls (.ref a :: r)) rfl rfl hd target ?_
    rw [ez]; exact ht
  · obtain ⟨rfl, hs⟩ := chk_some hs
    obtain ⟨v, hv, rfl⟩ := Option.map_eq_some_iff.mp hs
    exact Beh.stay X S N (X.ldcInt hx hown (mvT hZ (hw _ (rCon_mem hv))) (g := fr (adr k sa n0) m pc ls st) rfl hd)
  · obtain ⟨rfl, hs⟩ := chk_some hs
    obtain ⟨v, hv, rfl⟩ := Option.map_eq_some_iff.mp hs
    exact Beh.stay X S N (X.ldcwInt hx hown (mvT hZ (hw _ (rCon_mem hv))) (g := fr (adr k sa n0) m pc ls st) rfl hd)
  · obtain ⟨rfl, hs⟩ := chk_some hs
    obtain ⟨v, hv, rfl⟩ := Option.map_eq_some_iff.mp hs
    exact Beh.stay X S N (X.ldc2Long hx hown (mvT hZ (hw _ (rConL_mem hv))) (g := fr (adr k sa n0) m pc ls st) rfl hd)
  · cases hs
end H
theorem hstep_size {ws : Ws} {k : Nat} {y : MethodName} {ins : Instr} {len pc : Nat} {st : List Value} {H : AHeap} {q : Nat × List Value × AHeap} (hs : hstep ws k y ins len pc st H = some q) : H.length ≤ q.2.2.length ∧ tot ws H ≤ tot ws q.2.2 := by
  unfold hstep at hs
  split at hs
  · obtain ⟨rfl, hs⟩ := chk_some hs
    unfold hGet at hs
    split at hs
    · split at hs
      · split at hs
        · obtain ⟨v, -, rfl⟩ := Option.map_eq_some_iff.mp hs; exact ⟨Nat.le_refl _, Nat.le_refl _⟩
        · cases hs
      · cases hs
    · cases hs
  · obtain ⟨rfl, hs⟩ := chk_some hs
    unfold hPut at hs
    split at hs
    · split at hs
      · rename_i C j ty C' vs q1 q2
        split at hs
        · obtain ⟨v, -, rfl⟩ := Option.map_eq_some_iff.mp hs
          exact ⟨Nat.le_of_eq (by rw [List.length_set]), Nat.le_of_eq (tot_set (o := (.object C', vs)) (o' := (.object C', vs.set j v)) q2 rfl).symm⟩
        · cases hs
      · cases hs
    · cases hs
  · obtain ⟨rfl, hs⟩ := chk_some hs
    unfold hNew at hs
    split at hs
    · split at hs
      · cases hs; exact ⟨by simp, by rw [tot_app]; omega⟩
      · cases hs
    · cases hs
  · obtain ⟨rfl, hs⟩ := chk_some hs
    unfold hNewA at hs
    split at hs
    · split at hs
      · cases hs; exact ⟨by simp, by rw [tot_app]; omega⟩
      · cases hs
    · cases hs
  all_goals first
    | (obtain ⟨rfl, hs⟩ := chk_some hs; obtain ⟨j, a, r, ty, vs, v, rfl, q2, ho, hj, hv, rfl⟩ := hLd_some hs; exact ⟨Nat.le_refl _, Nat.le_refl _⟩)
    | (obtain ⟨rfl, hs⟩ := chk_some hs; obtain ⟨v, j, a, r, ty, vs, v', rfl, q2, ho, hk, hj, hlt, hv, rfl⟩ := hSt_some hs; exact ⟨Nat.le_of_eq (by rw [List.length_set]), Nat.le_of_eq (tot_set (o := (.array ty, vs)) (o' := (.array ty, vs.set _ v')) q2 (by simp [cost])).symm⟩)
    | (obtain ⟨rfl, hs⟩ := chk_some hs; obtain ⟨a, r, ty, vs, rfl, q2, rfl⟩ := hLen_some hs; exact ⟨Nat.le_refl _, Nat.le_refl _⟩)
    | (obtain ⟨rfl, hs⟩ := chk_some hs; obtain ⟨v, hv, rfl⟩ := Option.map_eq_some_iff.mp hs; exact ⟨Nat.le_refl _, Nat.le_refl _⟩)
    | (cases hs; done)
end Jvm.Own
namespace Jvm.Own
open Sem ClassFile Op Lib Jvm.Stand Jvm.Free Jvm.LawKit Jvm.RoadKit
/-! OWN 5: the run is the machine's -/
theorem ent_ren (f : Nat → Nat) : ∀ as : List Value, ent (as.map (ren f)) = (ent as).map (renS f)
  | [] => rfl
  | v :: r => by
    simp only [List.map_cons, ent, ren_cat, ent_ren f r]
    split <;> rfl
theorem fill_eq : ∀ (as : List Value) (acc : Array Slot), as.foldl (fun acc v => if v.category = 2 then (acc.push (.val v)).push .second else acc.push (.val v)) acc = acc ++ (ent as).toArray
  | [], acc => by simp [ent]
  | v :: r, acc => by
    simp only [List.foldl_cons, ent]
    split
    · rw [fill_eq r]; simp [← Array.toList_inj]
    · rw [fill_eq r]; simp [← Array.toList_inj]
theorem entry_eq (f : Nat → Nat) (m : MethodId) (as : List Value) (mx : Nat) : entryFrame m (as.map (ren f)).toArray mx = fr f m 0 (entry as mx) [] := by
  have h : argsToLocals (as.map (ren f)).toArray mx = ((entry as mx).map (renS f)).toArray := by
    unfold argsToLocals entry
    simp only [List.foldl_toArray']
    rw [fill_eq, ent_ren]
    simp [← Array.toList_inj, renS]
  unfold entryFrame
  rw [h]; rfl
theorem entry_len {as : List Value} {mx : Nat} (h : (ent as).length ≤ mx) : (entry as mx).length = mx := by simp [entry]; omega
theorem wsum_ren (f : Nat → Nat) (st : List Value) : ((st.map (ren f)).map fun v => v.category).sum = wsum st := by
  unfold wsum
  rw [List.map_map]
  congr 1
  apply List.map_congr_left
  intro v _
  exact ren_cat f v
section Inv
variable {ws : Ws} {dn : Dn} {k : Nat} {y : MethodName} {bytes : ByteArray} {ret : Option FieldType} {pc : Nat} {ls : List Slot} {st : List Value} {H : AHeap}
theorem cR_some {i : Nat} {y' : MethodName} {b : ByteArray} {mx na sl : Nat} {r : Option FieldType} (h : cR ws dn y i = some (y', b, mx, r, na, sl)) :
    Jvm.Cond.methodLink y.cls i y' ∈ ws ∧ Jvm.Cond.code y' b mx r ∈ ws ∧ Jvm.Cond.initialized y'.cls ∈ ws ∧ Jvm.plainName y'.cls = true ∧ (y'.cls ≠ "java/lang/invoke/MethodHandle" ∧ y'.cls ≠ "java/lang/invoke/VarHandle") ∧ rCode ws y' = some (b, mx, r) ∧
    ∃ f' l' f l sig, dnOf dn y' = some (f', l') ∧ dnOf dn y = some (f, l) ∧ parseMethodDescriptor y'.desc = some sig ∧ na = sig.parameters.length ∧ f' + 1 ≤ f ∧ sl + (mx + 11) + l' ≤ l := by
  unfold cR at h
  split at h
  · cases h
  · rename_i z q1
    split at h
    · rename_i b' mx' r' f' l' f l sig q2 q3 q4 q5
      split at h
      · rename_i g
        cases h
        obtain ⟨g1, g2, g3, g4, g5, g6⟩ := g
        exact ⟨rMth_mem q1, rCode_mem q2, hasInit_mem g1, g2, ⟨g3, g4⟩, q2, f', l', f, l, sig, q3, q4, q5, rfl, g5, by omega⟩
      · cases h
    · cases h
theorem act_ret {v : Option Value} (h : act ws dn k y bytes ret pc ls st H = some (.inl v)) : (∃ z r t, decode bytes pc = .ok (.ireturn, 1) ∧ st = .int z :: r ∧ ret = some t ∧ (t = .int ∨ t = .boolean ∨ t = .byte ∨ t = .char ∨ t = .short) ∧ v = some (.int (nar t z))) ∨
    (∃ z, decode bytes pc = .ok (.lreturn, 1) ∧ st = [.long z] ∧ ret = some .long ∧ v = some (.long z)) ∨ (decode bytes pc = .ok (.return_, 1) ∧ st = [] ∧ ret = none ∧ v = none) := by
  unfold act at h
  split at h
  · cases h
  rename_i ins len hd
  split at h
  · cases h
  split at h
  · cases h
  unfold cstep at h
  split at h
  · obtain ⟨rfl, h⟩ := chk_some h
    split at h
    · split at h
      · rename_i g; cases h; exact Or.inl ⟨_, _, _, hd, rfl, rfl, g, rfl⟩
      · cases h
    · cases h
  · obtain ⟨rfl, h⟩ := chk_some h
    split at h
    · cases h; exact Or.inr (Or.inl ⟨_, hd, rfl, rfl, rfl⟩)
    · cases h
  · obtain ⟨rfl, h⟩ := chk_some h
    split at h
    · cases h; exact Or.inr (Or.inr ⟨hd, rfl, rfl, rfl⟩)
    · cases h
  · obtain ⟨rfl, h⟩ := chk_some h
    split at h
    · split at h <;> cases h
    · cases h
  · obtain ⟨rfl, h⟩ := chk_some h
    split at h
    · split at h
      · split at h <;> cases h
      · cases h
    · split at h
      · split at h
        · split at h <;> cases h
        · cases h
      · cases h
  · obtain ⟨rfl, h⟩ := chk_some h
    split at h
    · split at h
      · split at h
        · split at h <;> cases h
        · cases h
      · cases h
    · cases h
  · cases h
theorem act_step {pc' : Nat} {ls' : List Slot} {st' : List Value} {H' : AHeap} (h : act ws dn k y bytes ret pc ls st H = some (.inr (.inl (pc', ls', st', H')))) : ∃ ins len, decode bytes pc = .ok (ins, len) ∧
    ((xstep ins len pc ls st = some (pc', ls', st') ∧ H' = H) ∨ (ls' = ls ∧ hstep ws k y ins len pc st H = some (pc', st', H')) ∨
     (∃ i sl a r, ins = .invokespecial i ∧ len = 3 ∧ oR ws dn y i = some sl ∧ st = .ref a :: r ∧ wsum r ≤ sl ∧ pc' = pc + 3 ∧ ls' = ls ∧ st' = r ∧ H' = H)) := by
  unfold act at h
  split at h
  · cases h
  rename_i ins len hd
  refine ⟨ins, len, hd, ?_⟩
  split at h
  · rename_i g; cases h; exact Or.inl ⟨g, rfl⟩
  split at h
  · rename_i g; cases h; exact Or.inr (Or.inl ⟨rfl, g⟩)
  unfold cstep at h
  split at h
  · obtain ⟨rfl, h⟩ := chk_some h
    split at h
    · split at h <;> cases h
    · cases h
  · obtain ⟨rfl, h⟩ := chk_some h
    split at h <;> cases h
  · obtain ⟨rfl, h⟩ := chk_some h
    split at h <;> cases h
  · obtain ⟨rfl, h⟩ := chk_some h
    split at h
    · split at h <;> cases h
    · cases h
  · obtain ⟨rfl, h⟩ := chk_some h
    split at h
    · rename_i sl ho
      split at h
      · split at h
        · rename_i g; cases h; exact Or.inr (Or.inr ⟨_, sl, _, _, rfl, rfl, ho, rfl, g, rfl, rfl, rfl, rfl⟩)
        · cases h
      · cases h
    · split at h
      · split at h
        · split at h <;> cases h
        · cases h
      · cases h
  · obtain ⟨rfl, h⟩ := chk_some h
    split at h
    · split at h
      · split at h
        · split at h <;> cases h
        · cases h
      · cases h
    · cases h
  · cases h
/-- the three kinds of call -/
theorem act_call {y' : MethodName} {b : ByteArray} {r : Option FieldType} {en : List Slot} {rest : List Value} (h : act ws dn k y bytes ret pc ls st H = some (.inr (.inr (y', b, r, en, rest)))) : ∃ i mx na sl as, cR ws dn y i = some (y', b, mx, r, na, sl) ∧ en = entry as mx ∧ (ent as).length ≤ mx ∧ wsum rest ≤ sl ∧
    ((decode bytes pc = .ok (.invokestatic i, 3) ∧ Jvm.Cond.static y' ∈ ws ∧ as.length = na ∧ st = as.reverse ++ rest) ∨
     (∃ a as', as = .ref a :: as' ∧ as'.length = na ∧ st = as'.reverse ++ .ref a :: rest ∧ Jvm.Cond.instanceMethod y' ∈ ws ∧
      ((decode bytes pc = .ok (.invokespecial i, 3) ∧ y'.name = "<init>" ∧ r = none) ∨
       (decode bytes pc = .ok (.invokevirtual i, 3) ∧ ∃ C vs, H[a]? = some (.object C, vs) ∧ ((Jvm.Cond.privateMethod y' ∈ ws ∧ ∃ ki, Jvm.Cond.instantiable y'.cls ki ∈ ws) ∨ (Jvm.Cond.declares y' ∈ ws ∧ Jvm.Cond.selects y'.cls y' y' ∈ ws ∧ C = y'.cls)))))) := by
  unfold act at h
  split at h
  · cases h
  rename_i ins len hd
  split at h
  · cases h
  split at h
  · cases h
  unfold cstep at h
  split at h
  · obtain ⟨rfl, h⟩ := chk_some h
    split at h
    · split at h <;> cases h
    · cases h
  · obtain ⟨rfl, h⟩ := chk_some h
    split at h <;> cases h
  · obtain ⟨rfl, h⟩ := chk_some h
    split at h <;> cases h
  · rename_i i _ _
    obtain ⟨rfl, h⟩ := chk_some h
    split at h
    · rename_i y1 b1 mx r1 na sl hq
      split at h
      · rename_i g
        cases h
        unfold sR at hq
        split at hq
        · rename_i q hc
          split at hq
          · rename_i hs
            cases hq
            refine ⟨i, mx, na, sl, _, hc, rfl, g.2.2, g.2.1, Or.inl ⟨hd, hasStat_mem hs, by simp; omega, by simp⟩⟩
          · cases hq
        · cases hq
      · cases h
    · cases h
  · rename_i i _ _
    obtain ⟨rfl, h⟩ := chk_some h
    split at h
    · split at h
      · split at h <;> cases h
      · cases h
    · split at h
      · rename_i y1 b1 mx r1 na sl hq
        split at h
        · rename_i a rest' hdrop
          split at h
          · rename_i g
            cases h
            unfold nR at hq
            split at hq
            · rename_i q hc
              split at hq
              · rename_i hs
                cases hq
                refine ⟨i, mx, na, sl, _, hc, rfl, g.2.1, g.1, Or.inr ⟨a, _, rfl, by simp; omega, ?_, hasIM_mem hs.2.1, Or.inl ⟨hd, hs.1, hs.2.2⟩⟩⟩
                rw [List.reverse_reverse, ← hdrop, List.take_append_drop]
              · cases hq
            · cases hq
          · cases h
        · cases h
      · cases h
  · rename_i i _ _
    obtain ⟨rfl, h⟩ := chk_some h
    split at h
    · rename_i pv y1 b1 mx r1 na sl hq
      split at h
      · rename_i a rest' hdrop
        split at h
        · rename_i C vs hH
          split at h
          · rename_i g
            cases h
            unfold vR at hq
            split at hq
            · rename_i q hc
              split at hq
              · rename_i hs
                split at hq
                · rename_i hp; cases hq
                  obtain ⟨ki, hki⟩ := Option.isSome_iff_exists.mp hp.2
                  exact ⟨i, mx, na, sl, _, hc, rfl, g.2.2.1, g.2.1, Or.inr ⟨a, _, rfl, by simp; omega, by rw [List.reverse_reverse, ← hdrop, List.take_append_drop], hasIM_mem hs, Or.inr ⟨hd, C, vs, hH, Or.inl ⟨hasPriv_mem hp.1, ki, rInst_mem hki⟩⟩⟩⟩
                · split at hq
                  · rename_i hp; cases hq
                    exact ⟨i, mx, na, sl, _, hc, rfl, g.2.2.1, g.2.1, Or.inr ⟨a, _, rfl, by simp; omega, by rw [List.reverse_reverse, ← hdrop, List.take_append_drop], hasIM_mem hs, Or.inr ⟨hd, C, vs, hH, Or.inr ⟨hasDecl_mem hp.1, hasSel_mem hp.2, g.1.resolve_left (by simp)⟩⟩⟩⟩
                  · cases hq
              · cases hq
            · cases hq
          · cases h
        · cases h
      · cases h
    · cases h
  · cases h
theorem act_size {pc' : Nat} {ls' : List Slot} {st' : List Value} {H' : AHeap} (h : act ws dn k y bytes ret pc ls st H = some (.inr (.inl (pc', ls', st', H')))) : H.length ≤ H'.length ∧ tot ws H ≤ tot ws H' ∧ ls'.length = ls.length := by
  obtain ⟨ins, len, hd, ⟨g, rfl⟩ | ⟨rfl, g⟩ | ⟨i, sl, a, r, -, -, -, -, -, -, rfl, -, rfl⟩⟩ := act_step h
  · exact ⟨Nat.le_refl _, Nat.le_refl _, xstep_size g⟩
  · have := hstep_size g; exact ⟨this.1, this.2, rfl⟩
  · exact ⟨Nat.le_refl _, Nat.le_refl _, rfl⟩
end Inv
theorem run_size {ws : Ws} {dn : Dn} {k : Nat} : ∀ {n : Nat} {y : MethodName} {bytes : ByteArray} {ret : Option FieldType} {pc : Nat} {ls : List Slot} {st : List Value} {H : AHeap} {v : Option Value} {H' : AHeap}, run ws dn k n y bytes ret pc ls st H = some (v, H') → H.length ≤ H'.length ∧ tot ws H ≤ tot ws H'
  | 0, _, _, _, _, _, _, _, _, _, h => by cases h
  | n + 1, y, bytes, ret, pc, ls, st, H, v, H', h => by
    rw [run] at h
    split at h
    · cases h
    · cases h; exact ⟨Nat.le_refl _, Nat.le_refl _⟩
    · rename_i g
      have h1 := run_size h
      have h2 := act_size g
      exact ⟨Nat.le_trans h2.1 h1.1, Nat.le_trans h2.2.1 h1.2⟩
    · split at h
      · rename_i g
        have h1 := run_size h
        have h2 := run_size g
        exact ⟨Nat.le_trans h2.1 h1.1, Nat.le_trans h2.2 h1.2⟩
      · cases h
section Snd
/-- from here on the machine comes to a return of v with the heap H' -/
def Goes (p : Program) (l : Launch) (e : Env) (R : Room) (s : State) (m : MethodId) (args : Array Value) (below : List Frame) (meth : Method) (c : Code) (T : State) (Z : State) (ws : Ws) (k sa n0 cells slots : Nat) (H : AHeap) (g : JFrame) (ret : Option FieldType) (v : Option Value) (H' : AHeap) : Prop :=
  ∃ T' locs', Stand p l e R s m args below meth c T' locs' (cells + (H'.length - H.length)) (slots + (tot ws H' - tot ws H)) ∧ Sim Z ws k sa n0 H' T'.heap ∧ Fr n0 locs' ∧ (ret = none → v = none) ∧
    ∀ fs, (∀ (fj : JFrame) (acts : List Action), fj.method = m → fj.locked = none → fj.entered = [] → (doReturn e (T'.setTop fj) acts (v.map (ren (adr k sa n0)))).1 = T'.setFrames fs) → Steps p.tables e below (T.setTop g) (T'.setFrames fs)
variable {p : Program} {l : Launch} {e : Env} {R : Room} {s : State} {m : MethodId} {args : Array Value} {below : List Frame} {meth : Method} {c : Code} {T : State} {locs : List Loc} {cells slots : Nat}
  {Z : State} {a0 : Array Value} {ws : Ws} {dn : Dn} {k sa n0 : Nat}
theorem Goes.of {T1 : State} {H H1 H' : AHeap} {g g1 : JFrame} {ret : Option FieldType} {v : Option Value} (hst : ∀ target, Steps p.tables e below (T1.setTop g1) target → Steps p.tables e below (T.setTop g) target)
    (G : Goes p l e R s m args below meth c T1 Z ws k sa n0 (cells + (H1.length - H.length)) (slots + (tot ws H1 - tot ws H)) H1 g1 ret v H') (m1 : H.length ≤ H1.length ∧ tot ws H ≤ tot ws H1) (m2 : H1.length ≤ H'.length ∧ tot ws H1 ≤ tot ws H') :
    Goes p l e R s m args below meth c T Z ws k sa n0 cells slots H g ret v H' := by
  obtain ⟨T', locs', X', S', N', hv, go⟩ := G
  have e1 : cells + (H1.length - H.length) + (H'.length - H1.length) = cells + (H'.length - H.length) := by omega
  have e2 : slots + (tot ws H1 - tot ws H) + (tot ws H' - tot ws H1) = slots + (tot ws H' - tot ws H) := by omega
  rw [e1, e2] at X'
  exact ⟨T', locs', X', S', N', hv, fun fs hf => hst _ (go fs hf)⟩
def Snd (Z : State) (ws : Ws) (dn : Dn) (k sa n0 n : Nat) : Prop :=
  ∀ (y : MethodName) (bytes : ByteArray) (ret : Option FieldType) (pc : Nat) (ls : List Slot) (st : List Value) (H : AHeap) (v : Option Value) (H' : AHeap), run ws dn k n y bytes ret pc ls st H = some (v, H') →
  ∀ (p : Program) (l : Launch) (e : Env) (R : Room) (s : State) (m : MethodId) (args : Array Value) (below : List Frame) (meth : Method) (c : Code) (T : State) (locs : List Loc) (cells slots : Nat),
    Stand p l e R s m args below meth c T locs cells slots → p.tables.exec = Jvm.exec → Z.Warmed39 s.vm → s.vm.findClass y.cls = some m.cls → meth.name = y.name → meth.sig.returnType = ret → c.code = bytes → ls.length = c.maxLocals →
    (∀ f lc, dnOf dn y = some (f, lc) → f ≤ R.frames ∧ lc ≤ R.locals) → Sim Z ws k sa n0 H T.heap → Fr n0 locs → cells + (H'.length - H.length) ≤ R.cells → slots + (tot ws H' - tot ws H) ≤ R.slots → T.heap.size = s.heap.size + cells →
    Goes p l e R s m args below meth c T Z ws k sa n0 cells slots H (fr (adr k sa n0) m pc ls st) ret v H'
theorem met_of {n : Nat} (ih : Snd Z ws dn k sa n0 n) (l : Launch) {y : MethodName} {b : ByteArray} {mx f lc : Nat} {r : Option FieldType} (wsx : List Jvm.Cond) (hp : Jvm.plainName y.cls = true) {as : List Value} (he : (ent as).length ≤ mx) {H H1 : AHeap} {v : Option Value}
    (hrun : run ws dn k n y b r 0 (entry as mx) [] H = some (v, H1)) (hdn : ∀ f' l', dnOf dn y = some (f', l') → f' ≤ f ∧ l' ≤ lc) {h : Heap} (S : Sim Z ws k sa n0 H h) {rc rs : Nat} (hc : H1.length - H.length ≤ rc) (hs : tot ws H1 - tot ws H ≤ rs) :
    MetFree l y (head1 (Jvm.Cond.code y b mx r :: wsx) ({ frames := f, cells := rc, slots := rs, locals := lc } : Room)) (fun a U => a = (as.map (ren (adr k sa n0))).toArray ∧ Z.Warmed39 U.vm ∧ U.heap = h) (fun _ _ _ _ _ => True)
      (fun _ U o U' => ∃ w L, o = .returned w ∧ (w = v.map (ren (adr k sa n0)) ∧ Sim Z ws k sa n0 H1 U'.heap ∧ Fr n0 L) ∧ FrameEnd U o U' L (H1.length - H.length) (tot ws H1 - tot ws H)) := by
  refine MetFree.of_bodySF (plainFor_of_name hp) hisR ?_
  intro p e s m args below meth c s₁ Bd hml0 hP hK
  obtain ⟨rfl, hZ, hh⟩ := hP
  have hown : s.vm.findClass y.cls = some m.cls := findClass_of_methodNamed Bd.named
  have hnm := (name_of_methodNamed Bd.named Bd.method).1
  have X0 : Stand p l e ({ frames := f, cells := rc, slots := rs, locals := lc } : Room) s m (as.map (ren (adr k sa n0))).toArray below meth c s₁ [] 0 0 := Stand.of_body Bd
  have e0 : s₁.heap = h := by rw [← hh, Bd.state]; rfl
  obtain ⟨T', locs', X', S', N', hv, go⟩ := ih y b r 0 (entry as mx) [] H v H1 hrun p l e _ s m _ below meth c s₁ [] 0 0 X0 Bd.exec hZ hown hnm Bd.returns Bd.bytes (by rw [entry_len he]; exact hml0.symm) hdn (by rw [e0]; exact S) (Fr.nil n0) (by rw [Nat.zero_add]; exact hc) (by rw [Nat.zero_add]; exact hs) (by rw [e0, ← hh, Nat.add_zero])
  obtain ⟨fs, hr, hrun', hended, hW, hsame⟩ := X'.leave (v := v.map (ren (adr k sa n0))) (fun hn => by rw [Bd.returns] at hn; rw [hv hn]; rfl)
  refine ⟨_, _, castTop (entry_eq _ m as mx) (go fs hr), hrun', hended, _, locs', rfl, ⟨rfl, S', N'⟩, ⟨_, rfl⟩, hW, hsame.mono (Nat.le_of_eq (Nat.zero_add _)) (Nat.le_of_eq (Nat.zero_add _))⟩
set_option maxHeartbeats 2000000 in
theorem snd (hw : ∀ d ∈ ws, d.before a0 Z = true) : ∀ n, Snd Z ws dn k sa n0 n
  | 0 => fun y bytes ret pc ls st H v H' h => by cases h
  | n + 1 => fun y bytes ret pc ls st H v H' h p l e R s m args below meth c T locs cells slots X hx hZ hown hnm hret hby hls hF S N hc hl hz0 => by
    have ih := snd hw n
    rw [run] at h
    split at h
    · cases h
    · rename_i v' ha
      cases h
      have stay : ∀ {v : Option Value}, (ret = none → v = none) → (∀ fs, (∀ (fj : JFrame) (acts : List Action), fj.method = m → fj.locked = none → fj.entered = [] → (doReturn e (T.setTop fj) acts (v.map (ren (adr k sa n0)))).1 = T.setFrames fs) → Steps p.tables e below (T.setTop (fr (adr k sa n0) m pc ls st)) (T.setFrames fs)) →
          Goes p l e R s m args below meth c T Z ws k sa n0 cells slots H (fr (adr k sa n0) m pc ls st) ret v H := fun hv hg => ⟨T, locs, by rw [Nat.sub_self, Nat.sub_self]; exact X, S, N, hv, hg⟩
      rcases act_ret ha with ⟨z, r, t, hd, rfl, rfl, ht, rfl⟩ | ⟨z, hd, rfl, rfl, rfl⟩ | ⟨hd, rfl, rfl, rfl⟩
      · refine stay (fun h => by cases h) fun fs hf => ?_
        rcases ht with rfl | ht
        · exact retOut X hx hret (w := .int z) (rest := r.map (ren (adr k sa n0))) rfl (Or.inl ⟨rfl, Or.inl rfl, z, rfl⟩) (hb hby hd) hf
        · exact retN X hx hret ht (hb hby hd) hf
      · exact stay (fun h => by cases h) fun fs hf => retOut X hx hret (w := .long z) (rest := []) rfl (Or.inr (Or.inl ⟨rfl, rfl, z, rfl⟩)) (hb hby hd) hf
      · exact stay (fun _ => rfl) fun fs hf => X.returnOut hx hret (hb hby hd) hf
    · rename_i pc' ls' st' H1 ha
      have m1 := act_size ha
      have m2 := run_size h
      obtain ⟨ins, len, hd, ⟨g, rfl⟩ | ⟨rfl, g⟩ | ⟨i, sl, a, r, rfl, rfl, ho, rfl, hW, rfl, rfl, rfl, rfl⟩⟩ := act_step ha
      · obtain ⟨T', locs', X', S', N', hv, go⟩ := ih y bytes ret pc' ls' st' H1 v H' h p l e R s m args below meth c T locs cells slots X hx hZ hown hnm hret hby (m1.2.2.trans hls) hF S N hc hl hz0
        exact ⟨T', locs', X', S', N', hv, fun fs hf => xstep_sound X.here hx (adr k sa n0) (hb hby hd) g (go fs hf)⟩
      · obtain ⟨T1, locs1, X1, S1, N1, st1⟩ := hstep_sound (ls := ls') hw X hx hZ hown hnm (hb hby hd) g S N (by dsimp only; omega) (by dsimp only; omega) hz0
        dsimp only at X1 S1 st1
        have z1 := S.1
        have z2 := S1.1
        have z3 := S.2.1
        have G := ih y bytes ret pc' ls' st' H1 v H' h p l e R s m args below meth c T1 locs1 _ _ X1 hx hZ hown hnm hret hby hls hF S1 N1 (by omega) (by omega) (by omega)
        exact Goes.of st1 G ⟨m1.1, m1.2.1⟩ m2
      · unfold oR at ho
        split at ho
        · rename_i y1 b1 mx1 r1 f1 l1 q1 q2 q3
          split at ho
          · rename_i g
            cases ho
            obtain ⟨rfl, g2, g3, rfl, rfl, g4, g5⟩ := g
            obtain ⟨u1, u2⟩ := hF _ _ q3
            have eb : b1 = ⟨#[0xb1]⟩ := by cases b1; cases g3; rfl
            subst eb
            obtain ⟨T1, X1, e1, st1⟩ := initO X hx hZ hown (hw _ (rMth_mem q1)) (hw _ (hasIM_mem g2)) (hw _ (rCode_mem q2)) rfl (g := fr (adr k sa n0) m pc ls' (.ref a :: st')) rfl (by simp [hls]) rfl (hb hby hd) (by omega) (W := l1 - 12) (by show 2 * 0 + _ ≤ _; rw [wsum_ren]; omega) (by omega)
            have G := ih y bytes ret (pc + 3) ls' st' H1 v H' h p l e R s m args below meth c T1 locs cells slots X1 hx hZ hown hnm hret hby hls hF (by rw [e1]; exact S) N hc hl (by rw [e1]; exact hz0)
            obtain ⟨T', locs', X', S', N', hv, go⟩ := G
            exact ⟨T', locs', X', S', N', hv, fun fs hf => st1 _ (go fs hf)⟩
          · cases ho
        · cases ho
    · rename_i y' b r en rest ha
      split at h
      · rename_i v1 H1 h1
        have m1 := run_size h1
        have m2 := run_size h
        obtain ⟨i, mx, na, sl, as, hq, rfl, hen, hW, hk⟩ := act_call ha
        obtain ⟨w1, w2, w3, w4, w5, -, f', l', f, lc, sig, d1, d2, d3, d4, d5, d6⟩ := cR_some hq
        obtain ⟨u1, u2⟩ := hF _ _ d2
        have hM := met_of ih l [] w4 hen h1 (f := f') (lc := l') (fun f2 l2 q => by rw [d1] at q; cases q; exact ⟨Nat.le_refl _, Nat.le_refl _⟩) S (Nat.le_refl _) (Nat.le_refl _)
        have hB := backOf (R := R) (p := p) (e := e) (below := below) (s := s) (args := args) (len := 3) (W := sl) (rm := ({ frames := f', cells := H1.length - H.length, slots := tot ws H1 - tot ws H, locals := l' } : Room)) (Q := fun w h L => w = v1.map (ren (adr k sa n0)) ∧ Sim Z ws k sa n0 H1 h ∧ Fr n0 L) hM hZ (hw _ w2) (hw _ w3) (by show f' + 1 ≤ _; omega) (by show sl + (mx + 11) + l' ≤ _; omega)
        have hsz : (fr (adr k sa n0) m pc ls st).locals.size = c.maxLocals := by simp [hls]
        have hWW : ∀ st' : List Value, wsum st' ≤ sl → 2 * (fr (adr k sa n0) m pc ls st).monitorRoom + ((st'.map (ren (adr k sa n0))).map fun v => v.category).sum ≤ sl := fun st' q => by show 2 * 0 + _ ≤ _; rw [wsum_ren]; omega
        have hback : ∀ (v' : Option Value) (vm₁ : Vm) (B : Pt), Stand p l e R s m args below meth c B.U B.locs B.cells B.slots →
            (∃ L, (v' = v1.map (ren (adr k sa n0)) ∧ Sim Z ws k sa n0 H1 B.U.heap ∧ Fr n0 L) ∧ B.locs = locs ++ L ∧ B.cells = cells + (H1.length - H.length) ∧ B.slots = slots + (tot ws H1 - tot ws H)) →
            (∀ target, Steps p.tables e below (B.U.setTop { fr (adr k sa n0) m pc ls st with pc := pc + 3, stack := v'.toList ++ rest.map (ren (adr k sa n0)) }) target → Steps p.tables e below (T.setTop (fr (adr k sa n0) m pc ls st)) target) →
            Goes p l e R s m args below meth c T Z ws k sa n0 cells slots H (fr (adr k sa n0) m pc ls st) ret v H' := by
          rintro v' vm₁ ⟨T1, L1, k1, n1⟩ X1 ⟨Lc, ⟨rfl, S1, N1⟩, l1, y1, z1⟩ st1
          dsimp only [Pt.U, Pt.locs, Pt.cells, Pt.slots] at X1 l1 y1 z1 st1 S1
          subst l1 y1 z1
          have z1 := S.1
          have z2 := S1.1
          have z3 := S.2.1
          have G := ih y bytes ret (pc + 3) ls (v1.toList ++ rest) H1 v H' h p l e R s m args below meth c T1 _ _ _ X1 hx hZ hown hnm hret hby hls hF S1 (Fr.app N N1) (by omega) (by omega) (by omega)
          refine Goes.of (fun target ht => st1 target ?_) G m1 m2
          have e1 : (v1.toList ++ rest).map (ren (adr k sa n0)) = (v1.map (ren (adr k sa n0))).toList ++ rest.map (ren (adr k sa n0)) := by cases v1 <;> simp
          rw [← e1]; exact ht
        rcases hk with ⟨hd, ws1, hna, rfl⟩ | ⟨a, as', rfl, hna, rfl, wi, ⟨hd, hn, rfl⟩ | ⟨hd, C, vs, hH, hpd⟩⟩
        · obtain ⟨v', vm₁, B, -, X1, P1, st1⟩ := Jvm.LawKit.callS X hx (y := y') hown (mvT hZ (hw _ w1)) (mvT hZ (hw _ ws1)) (mvT hZ (hw _ w3)) (mvT hZ (hw _ w2)) w5 hB (g := fr (adr k sa n0) m pc ls (as.reverse ++ rest)) rfl hsz (argsL := as.map (ren (adr k sa n0))) (rest := rest.map (ren (adr k sa n0)))
            (fun sg hsg => by rw [d3] at hsg; cases hsg; simp [hna, d4]) (by simp) (hWW rest hW) (hb hby hd) (fun _ _ => ⟨rfl, rfl, by show cells + (H1.length - H.length) ≤ _; omega, by show slots + (tot ws H1 - tot ws H) ≤ _; omega⟩)
          exact hback v' vm₁ B X1 P1 st1
        · obtain ⟨v', vm₁, B, -, X1, P1, st1⟩ := X.specialBack hx (y := y') hn hown (mvT hZ (hw _ w1)) (mvT hZ (hw _ wi)) (mvT hZ (hw _ w2)) w5 hB (g := fr (adr k sa n0) m pc ls (as'.reverse ++ .ref a :: rest)) rfl hsz (Steps.refl _) (a := adr k sa n0 a) (argsL := as'.map (ren (adr k sa n0))) (rest := rest.map (ren (adr k sa n0)))
            (fun sg hsg => by rw [d3] at hsg; cases hsg; simp [hna, d4]) (by simp [ren]) (hWW rest hW) (hb hby hd) (fun _ _ => ⟨rfl, rfl, by show cells + (H1.length - H.length) ≤ _; omega, by show slots + (tot ws H1 - tot ws H) ≤ _; omega⟩)
          exact hback v' vm₁ B X1 P1 fun target ht => st1.trans ht
        · have E := (S.2.2.2.2 a _ hH).1
          rcases hpd with ⟨wp, ki, wki⟩ | ⟨wd, wsel, rfl⟩
          · obtain ⟨cq, hq1, hq2⟩ := E.cell
            have hpa : s.PrivateAt y' := Cond.privateMethod_at (mvP hZ (hw _ wp) (args := #[]))
            have hsel : (Jvm.Cond.selects y'.cls y' y').before args s = true := by
              have wz : (Jvm.Cond.instantiable y'.cls ki).before args s = true := mvT hZ (hw _ wki)
              obtain ⟨c2, k2, i1, i2, -, i4, -⟩ := Cond.instantiable_spec wz
              exact selects_self_of_private i1 i2 (Bool.or_eq_false_iff.mp i4).1 hpa (mvT hZ (hw _ wi)) w5
            obtain ⟨v', vm₁, B, -, X1, P1, st1⟩ := X.privateBack hx (y := y') hown (mvT hZ (hw _ w1)) (mvT hZ (hw _ wi)) hsel hpa (mvT hZ (hw _ w2)) w5 hB (g := fr (adr k sa n0) m pc ls (as'.reverse ++ .ref a :: rest)) rfl hsz (Steps.refl _) (a := adr k sa n0 a) hq1 hq2 (argsL := as'.map (ren (adr k sa n0))) (rest := rest.map (ren (adr k sa n0)))
              (fun sg hsg => by rw [d3] at hsg; cases hsg; simp [hna, d4]) (by simp [ren]) (hWW rest hW) (hb hby hd) (fun _ _ => ⟨rfl, rfl, by show cells + (H1.length - H.length) ≤ _; omega, by show slots + (tot ws H1 - tot ws H) ≤ _; omega⟩)
            exact hback v' vm₁ B X1 P1 fun target ht => st1.trans ht
          · obtain ⟨cq, kq, qa, qb, qc⟩ := isOf hZ rfl E
            obtain ⟨v', vm₁, B, -, X1, P1, st1⟩ := X.virtualBack hx (y := y') (z := y') hown (mvT hZ (hw _ w1)) (mvT hZ (hw _ wd)) (notFace_of_selects (args := #[]) (mvT hZ (hw _ wsel))) (mvT hZ (hw _ wsel)) (mvT hZ (hw _ wi)) w5 hB qa qc (g := fr (adr k sa n0) m pc ls (as'.reverse ++ .ref a :: rest)) rfl hsz (Steps.refl _) (argsL := as'.map (ren (adr k sa n0))) (rest := rest.map (ren (adr k sa n0)))
              (fun sg hsg => by rw [d3] at hsg; cases hsg; simp [hna, d4]) (by simp [ren]) (hWW rest hW) (hb hby hd) (fun _ _ => ⟨rfl, rfl, by show cells + (H1.length - H.length) ≤ _; omega, by show slots + (tot ws H1 - tot ws H) ≤ _; omega⟩)
            exact hback v' vm₁ B X1 P1 fun target ht => st1.trans ht
      · cases h
end Snd
end Jvm.Own
namespace Jvm.Own
open Sem ClassFile Op Lib Jvm.Stand Jvm.Free Jvm.LawKit Jvm.RoadKit
/-! OWN 6: from here on no machine is in sight -/
theorem run_succ {ws : Ws} {dn : Dn} {k : Nat} : ∀ {n : Nat} {y : MethodName} {bytes : ByteArray} {ret : Option FieldType} {pc : Nat} {ls : List Slot} {st : List Value} {H : AHeap} {r : Option Value × AHeap}, run ws dn k n y bytes ret pc ls st H = some r → run ws dn k (n + 1) y bytes ret pc ls st H = some r
  | 0, _, _, _, _, _, _, _, _, h => by cases h
  | n + 1, y, bytes, ret, pc, ls, st, H, r, h => by
    rw [run] at h
    rw [run]
    split at h
    · cases h
    · exact h
    · exact run_succ h
    · split at h
      · rename_i v H1 g
        rw [run_succ g]
        exact run_succ h
      · cases h
theorem run_mono {ws : Ws} {dn : Dn} {k n n' : Nat} {y : MethodName} {bytes : ByteArray} {ret : Option FieldType} {pc : Nat} {ls : List Slot} {st : List Value} {H : AHeap} {r : Option Value × AHeap} (hn : n ≤ n') (h : run ws dn k n y bytes ret pc ls st H = some r) : run ws dn k n' y bytes ret pc ls st H = some r := by
  induction hn with
  | refl => exact h
  | step _ ih => exact run_succ ih
/-- from here on a run comes to a return at which Q holds -/
def W (ws : Ws) (dn : Dn) (k : Nat) (y : MethodName) (bytes : ByteArray) (ret : Option FieldType) (pc : Nat) (ls : List Slot) (st : List Value) (H : AHeap) (Q : Option Value → AHeap → Prop) : Prop :=
  ∃ n v H', run ws dn k n y bytes ret pc ls st H = some (v, H') ∧ Q v H'
section
variable {ws : Ws} {dn : Dn} {k : Nat} {y : MethodName} {bytes : ByteArray} {ret : Option FieldType} {pc : Nat} {ls : List Slot} {st : List Value} {H : AHeap} {Q : Option Value → AHeap → Prop}
theorem W_step {pc' : Nat} {ls' : List Slot} {st' : List Value} {H' : AHeap} (h : act ws dn k y bytes ret pc ls st H = some (.inr (.inl (pc', ls', st', H')))) : W ws dn k y bytes ret pc ls st H Q = W ws dn k y bytes ret pc' ls' st' H' Q := by
  refine propext ⟨fun ⟨n, v, H1, h1, h2⟩ => ?_, fun ⟨n, v, H1, h1, h2⟩ => ⟨n + 1, v, H1, by rw [run, h]; exact h1, h2⟩⟩
  cases n with
  | zero => cases h1
  | succ n => rw [run, h] at h1; exact ⟨n, v, H1, h1, h2⟩
theorem W_ret {v : Option Value} (h : act ws dn k y bytes ret pc ls st H = some (.inl v)) : W ws dn k y bytes ret pc ls st H Q = Q v H := by
  refine propext ⟨fun ⟨n, v, H1, h1, h2⟩ => ?_, fun h2 => ⟨1, v, H, by rw [run, h], h2⟩⟩
  cases n with
  | zero => cases h1
  | succ n => rw [run, h] at h1; cases h1; exact h2
theorem W_call {y' : MethodName} {b : ByteArray} {r : Option FieldType} {en : List Slot} {rest : List Value} (h : act ws dn k y bytes ret pc ls st H = some (.inr (.inr (y', b, r, en, rest)))) :
    W ws dn k y bytes ret pc ls st H Q = W ws dn k y' b r 0 en [] H (fun v H1 => W ws dn k y bytes ret (pc + 3) ls (v.toList ++ rest) H1 Q) := by
  refine propext ⟨fun ⟨n, v, H1, h1, h2⟩ => ?_, fun ⟨n, v, H1, h1, n', v', H', h2, h3⟩ => ⟨max n n' + 1, v', H', ?_, h3⟩⟩
  · cases n with
    | zero => cases h1
    | succ n =>
      rw [run, h] at h1
      dsimp only at h1
      split at h1
      · rename_i v' H' g; exact ⟨n, v', H', g, n, v, H1, h1, h2⟩
      · cases h1
  · rw [run, h]
    dsimp only
    rw [run_mono (Nat.le_max_left _ _) h1]
    exact run_mono (Nat.le_max_right _ _) h2
theorem W.mono {Q' : Option Value → AHeap → Prop} (h : W ws dn k y bytes ret pc ls st H Q) (hq : ∀ v H', Q v H' → Q' v H') : W ws dn k y bytes ret pc ls st H Q' := by
  obtain ⟨n, v, H', h1, h2⟩ := h; exact ⟨n, v, H', h1, hq _ _ h2⟩
theorem act_x {ins : Instr} {len pc' : Nat} {ls' : List Slot} {st' : List Value} (hd : decode bytes pc = .ok (ins, len)) (hx : xstep ins len pc ls st = some (pc', ls', st')) : act ws dn k y bytes ret pc ls st H = some (.inr (.inl (pc', ls', st', H))) := by
  unfold act; rw [hd]; dsimp only; rw [hx]
theorem act_h {ins : Instr} {len pc' : Nat} {st' : List Value} {H' : AHeap} (hd : decode bytes pc = .ok (ins, len)) (hx : xstep ins len pc ls st = none) (hh : hstep ws k y ins len pc st H = some (pc', st', H')) : act ws dn k y bytes ret pc ls st H = some (.inr (.inl (pc', ls, st', H'))) := by
  unfold act; rw [hd]; dsimp only; rw [hx]; dsimp only; rw [hh]
theorem act_c {ins : Instr} {len : Nat} (hd : decode bytes pc = .ok (ins, len)) (hx : xstep ins len pc ls st = none) (hh : hstep ws k y ins len pc st H = none) : act ws dn k y bytes ret pc ls st H = cstep ws dn y ret ins len pc ls st H := by
  unfold act; rw [hd]; dsimp only; rw [hx]; dsimp only; rw [hh]
/-- a plain step -/
theorem w_x {ins : Instr} {len pc' : Nat} {ls' : List Slot} {st' : List Value} (hd : decode bytes pc = .ok (ins, len)) (hx : xstep ins len pc ls st = some (pc', ls', st')) : W ws dn k y bytes ret pc ls st H Q = W ws dn k y bytes ret pc' ls' st' H Q := W_step (act_x hd hx)
/-- a conditional branch -/
theorem w_if {cd : ClassFile.Cond} {o : Int} {x : Int32} {t : Nat} {P : Prop} [Decidable P] (hd : decode bytes pc = .ok (.ifCond cd o, 3)) (hp : ifCond.holds cd x = decide P) (hj : jmp pc o = some t) :
    W ws dn k y bytes ret pc ls (.int x :: st) H Q = if P then W ws dn k y bytes ret t ls st H Q else W ws dn k y bytes ret (pc + 3) ls st H Q := by
  split
  · exact w_x hd (by simp only [xstep, chk, br, hp, hj, if_true]; simp [*])
  · exact w_x hd (by simp only [xstep, chk, br, hp, hj, if_true]; simp [*])
theorem w_icmp {cd : ClassFile.Cond} {o : Int} {x1 x2 : Int32} {t : Nat} {P : Prop} [Decidable P] (hd : decode bytes pc = .ok (.if_icmp cd o, 3)) (hp : if_icmp.holds cd x1 x2 = decide P) (hj : jmp pc o = some t) :
    W ws dn k y bytes ret pc ls (.int x2 :: .int x1 :: st) H Q = if P then W ws dn k y bytes ret t ls st H Q else W ws dn k y bytes ret (pc + 3) ls st H Q := by
  split
  · exact w_x hd (by simp only [xstep, chk, br, hp, hj, if_true]; simp [*])
  · exact w_x hd (by simp only [xstep, chk, br, hp, hj, if_true]; simp [*])
theorem w_get {i j : Nat} {a : Nat} {C : String} {vs : List Value} {v : Value} (hd : decode bytes pc = .ok (.getfield i, 3)) (hr : gfR ws y.cls i = some (C, j)) (ho : H[a]? = some (.object C, vs)) (hv : vs[j]? = some v) :
    W ws dn k y bytes ret pc ls (.ref a :: st) H Q = W ws dn k y bytes ret (pc + 3) ls (v :: st) H Q :=
  W_step (act_h hd rfl (by simp only [hstep, chk, hGet, hr, ho, hv, if_true, Option.map_some]))
theorem w_put {i j : Nat} {a : Nat} {C : String} {ty : FieldType} {vs : List Value} {v v' : Value} {H' : AHeap} (hd : decode bytes pc = .ok (.putfield i, 3)) (hr : pfR ws y.cls y.name i = some (C, j, ty)) (ho : H[a]? = some (.object C, vs)) (hk : k ≤ a) (hj : j < vs.length) (hv : putv ty v = some v') (hH : H.set a (.object C, vs.set j v') = H') :
    W ws dn k y bytes ret pc ls (v :: .ref a :: st) H Q = W ws dn k y bytes ret (pc + 3) ls st H' Q :=
  W_step (act_h hd rfl (by simp only [hstep, chk, hPut, hr, ho, hv, if_true, true_and, hk, hj, Option.map_some, hH, and_self]))
theorem w_new {i : Nat} {C : String} (hd : decode bytes pc = .ok (.new i, 3)) (hr : hNew ws y.cls i pc H st = some (pc + 3, .ref H.length :: st, H ++ [(.object C, (olay ws C).map dflt)])) :
    W ws dn k y bytes ret pc ls st H Q = W ws dn k y bytes ret (pc + 3) ls (.ref H.length :: st) (H ++ [(.object C, (olay ws C).map dflt)]) Q :=
  W_step (act_h hd rfl (by simp only [hstep, chk, if_true]; exact hr))
theorem w_newA {aty : ArrayType} {n : Int32} {ty : FieldType} (hd : decode bytes pc = .ok (.newarray aty, 2)) (ht : newarray.typeOf aty = ty) (hr : hasArr ws ty = true) (hn : ¬ n < 0) (hb : n.toNatClampNeg * 8 ≤ 536870912) :
    W ws dn k y bytes ret pc ls (.int n :: st) H Q = W ws dn k y bytes ret (pc + 2) ls (.ref H.length :: st) (H ++ [(.array ty, List.replicate n.toNatClampNeg (defaultValue ty))]) Q := by
  subst ht
  exact W_step (act_h hd rfl (by simp only [hstep, chk, hNewA, hr, hn, hb, if_true, not_false_eq_true, and_self]))
/-- may the instruction read an array of that kind? -/
def ldOk : Instr → FieldType → Bool
  | .iaload, .int | .caload, .char | .laload, .long | .baload, .byte | .baload, .boolean => true
  | _, _ => false
def stOk : Instr → FieldType → Bool
  | .iastore, .int | .castore, .char | .lastore, .long | .bastore, .byte | .bastore, .boolean => true
  | _, _ => false
theorem w_ald {ins : Instr} {a : Nat} {j : Int32} {ty : FieldType} {vs : List Value} {v : Value} (hd : decode bytes pc = .ok (ins, 1)) (hi : ldOk ins ty = true) (ho : H[a]? = some (.array ty, vs)) (hj : ¬ j < 0) (hv : vs[j.toNatClampNeg]? = some v) :
    W ws dn k y bytes ret pc ls (.int j :: .ref a :: st) H Q = W ws dn k y bytes ret (pc + 1) ls (v :: st) H Q := by
  unfold ldOk at hi
  split at hi
  all_goals first
    | exact W_step (act_h hd rfl (by simp only [hstep, chk, hLd, okT, okB, ho, hv, hj, if_true, Option.map_some, decide_true, not_false_eq_true, and_self, Bool.or_true, Bool.true_or]))
    | cases hi
theorem w_ast {ins : Instr} {a : Nat} {j : Int32} {ty : FieldType} {vs : List Value} {v v' : Value} {H' : AHeap} (hd : decode bytes pc = .ok (ins, 1)) (hi : stOk ins ty = true) (ho : H[a]? = some (.array ty, vs)) (hk : k ≤ a) (hj : ¬ j < 0) (hl : j.toNatClampNeg < vs.length) (hv : putv ty v = some v') (hH : H.set a (.array ty, vs.set j.toNatClampNeg v') = H') :
    W ws dn k y bytes ret pc ls (v :: .int j :: .ref a :: st) H Q = W ws dn k y bytes ret (pc + 1) ls st H' Q := by
  unfold stOk at hi
  split at hi
  all_goals first
    | exact W_step (act_h hd rfl (by simp only [hstep, chk, hSt, okT, okB, ho, hv, hj, hk, hl, hH, if_true, Option.map_some, decide_true, not_false_eq_true, and_self, Bool.or_true, Bool.true_or]))
    | cases hi
theorem w_len {a : Nat} {ty : FieldType} {vs : List Value} (hd : decode bytes pc = .ok (.arraylength, 1)) (ho : H[a]? = some (.array ty, vs)) :
    W ws dn k y bytes ret pc ls (.ref a :: st) H Q = W ws dn k y bytes ret (pc + 1) ls (.int vs.length.toInt32 :: st) H Q :=
  W_step (act_h hd rfl (by simp only [hstep, chk, hLen, ho, if_true]))
theorem w_ldc {i : Nat} {v : Int32} (hd : decode bytes pc = .ok (.ldc i, 2)) (hr : rCon ws y.cls i = some v) : W ws dn k y bytes ret pc ls st H Q = W ws dn k y bytes ret (pc + 2) ls (.int v :: st) H Q :=
  W_step (act_h hd rfl (by simp only [hstep, chk, hr, if_true, Option.map_some]))
theorem w_ldcw {i : Nat} {v : Int32} (hd : decode bytes pc = .ok (.ldc_w i, 3)) (hr : rCon ws y.cls i = some v) : W ws dn k y bytes ret pc ls st H Q = W ws dn k y bytes ret (pc + 3) ls (.int v :: st) H Q :=
  W_step (act_h hd rfl (by simp only [hstep, chk, hr, if_true, Option.map_some]))
theorem w_ldc2 {i : Nat} {v : Int64} (hd : decode bytes pc = .ok (.ldc2_w i, 3)) (hr : rConL ws y.cls i = some v) : W ws dn k y bytes ret pc ls st H Q = W ws dn k y bytes ret (pc + 3) ls (.long v :: st) H Q :=
  W_step (act_h hd rfl (by simp only [hstep, chk, hr, if_true, Option.map_some]))
theorem w_iret {z : Int32} (hd : decode bytes pc = .ok (.ireturn, 1)) (hr : ret = some .int) : W ws dn k y bytes ret pc ls (.int z :: st) H Q = Q (some (.int z)) H := by
  subst hr; exact W_ret (by rw [act_c hd rfl rfl]; rfl)
theorem w_iretN {z : Int32} {t : FieldType} (hd : decode bytes pc = .ok (.ireturn, 1)) (hr : ret = some t) (ht : t = .int ∨ t = .boolean ∨ t = .byte ∨ t = .char ∨ t = .short) : W ws dn k y bytes ret pc ls (.int z :: st) H Q = Q (some (.int (nar t z))) H := by
  subst hr; exact W_ret (by rw [act_c hd rfl rfl]; simp only [cstep, chk, if_true, ht])
theorem w_lret {z : Int64} (hd : decode bytes pc = .ok (.lreturn, 1)) (hr : ret = some .long) : W ws dn k y bytes ret pc ls [.long z] H Q = Q (some (.long z)) H := by
  subst hr; exact W_ret (by rw [act_c hd rfl rfl]; rfl)
theorem w_vret (hd : decode bytes pc = .ok (.return_, 1)) (hr : ret = none) : W ws dn k y bytes ret pc ls [] H Q = Q none H := by
  subst hr; exact W_ret (by rw [act_c hd rfl rfl]; rfl)
theorem w_obj {i sl : Nat} {a : Nat} (hd : decode bytes pc = .ok (.invokespecial i, 3)) (hr : oR ws dn y i = some sl) (hw : wsum st ≤ sl) : W ws dn k y bytes ret pc ls (.ref a :: st) H Q = W ws dn k y bytes ret (pc + 3) ls st H Q :=
  W_step (by rw [act_c hd rfl rfl]; simp only [cstep, chk, if_true, hr, hw])
theorem w_stat {i mx na sl : Nat} {y' : MethodName} {b : ByteArray} {r : Option FieldType} {as rest : List Value} {en : List Slot} (hd : decode bytes pc = .ok (.invokestatic i, 3)) (hr : sR ws dn y i = some (y', b, mx, r, na, sl)) (hn : as.length = na) (hw : wsum rest ≤ sl) (he : (ent as.reverse).length ≤ mx) (hen : entry as.reverse mx = en) :
    W ws dn k y bytes ret pc ls (as ++ rest) H Q = W ws dn k y' b r 0 en [] H (fun v H1 => W ws dn k y bytes ret (pc + 3) ls (v.toList ++ rest) H1 Q) := by
  subst hn hen
  have e1 : (as ++ rest).take as.length = as := by simp
  have e2 : (as ++ rest).drop as.length = rest := by simp
  exact W_call (by rw [act_c hd rfl rfl]; simp only [cstep, chk, if_true, hr, e1, e2, hw, he, List.length_append, Nat.le_add_right, and_self])
theorem w_spec {i mx na sl a : Nat} {y' : MethodName} {b : ByteArray} {r : Option FieldType} {as rest : List Value} {en : List Slot} (hd : decode bytes pc = .ok (.invokespecial i, 3)) (h0 : oR ws dn y i = none) (hr : nR ws dn y i = some (y', b, mx, r, na, sl)) (hn : as.length = na) (hw : wsum rest ≤ sl) (he : (ent (.ref a :: as.reverse)).length ≤ mx) (hen : entry (.ref a :: as.reverse) mx = en) :
    W ws dn k y bytes ret pc ls (as ++ .ref a :: rest) H Q = W ws dn k y' b r 0 en [] H (fun v H1 => W ws dn k y bytes ret (pc + 3) ls (v.toList ++ rest) H1 Q) := by
  subst hn hen
  have e1 : (as ++ .ref a :: rest).take as.length = as := by simp
  have e2 : (as ++ .ref a :: rest).drop as.length = .ref a :: rest := by simp
  exact W_call (by rw [act_c hd rfl rfl]; simp only [cstep, chk, if_true, h0, hr, e1, e2, hw, he, List.length_append, Nat.le_add_right, and_self])
theorem w_virt {i mx na sl a : Nat} {pv : Bool} {y' : MethodName} {b : ByteArray} {r : Option FieldType} {as rest : List Value} {en : List Slot} {C : String} {vs : List Value} (hd : decode bytes pc = .ok (.invokevirtual i, 3)) (hr : vR ws dn y i = some (pv, y', b, mx, r, na, sl)) (ho : H[a]? = some (.object C, vs)) (hC : C = y'.cls) (hn : as.length = na) (hw : wsum rest ≤ sl) (he : (ent (.ref a :: as.reverse)).length ≤ mx) (hen : entry (.ref a :: as.reverse) mx = en) :
    W ws dn k y bytes ret pc ls (as ++ .ref a :: rest) H Q = W ws dn k y' b r 0 en [] H (fun v H1 => W ws dn k y bytes ret (pc + 3) ls (v.toList ++ rest) H1 Q) := by
  subst hn hen hC
  have e1 : (as ++ .ref a :: rest).take as.length = as := by simp
  have e2 : (as ++ .ref a :: rest).drop as.length = .ref a :: rest := by simp
  exact W_call (by rw [act_c hd rfl rfl]; simp only [cstep, chk, if_true, hr, e1, e2, ho, hw, he, List.length_append, Nat.le_add_right, and_self, or_true])
end
theorem law_of {Z : State} {a0 : Array Value} {ws : Ws} {dn : Dn} {k sa n0 : Nat} (hw : ∀ d ∈ ws, d.before a0 Z = true) (l : Launch) {y : MethodName} {b : ByteArray} {mx f lc rc rs : Nat} {r : Option FieldType} (wsx : List Jvm.Cond) (hp : Jvm.plainName y.cls = true) {as : List Value} (he : (ent as).length ≤ mx) {H : AHeap}
    (hW : W ws dn k y b r 0 (entry as mx) [] H (fun v H1 => v = some (.int 1) ∧ H1.length - H.length ≤ rc ∧ tot ws H1 - tot ws H ≤ rs)) (hdn : ∀ f' l', dnOf dn y = some (f', l') → f' ≤ f ∧ l' ≤ lc) {h : Heap} (S : Sim Z ws k sa n0 H h) :
    MetFree l y (head1 (Jvm.Cond.code y b mx r :: wsx) ({ frames := f, cells := rc, slots := rs, locals := lc } : Room)) (fun a U => a = (as.map (ren (adr k sa n0))).toArray ∧ Z.Warmed39 U.vm ∧ U.heap = h) (fun _ _ _ _ _ => True)
      (fun _ U o U' => ∃ w L, o = .returned w ∧ (w = some (.int 1) ∧ Fr n0 L) ∧ FrameEnd U o U' L rc rs) := by
  obtain ⟨n, v, H1, h1, rfl, h3, h4⟩ := hW
  have M := met_of (snd hw n) l wsx hp he h1 hdn S h3 h4
  intro p e ha hc hk s m args below hf happ hP hK
  obtain ⟨n', o, g1, g2, g3, w, L, rfl, ⟨rfl, -, N⟩, F⟩ := M p e ha hc hk s m args below hf happ hP hK
  exact ⟨n', _, g1, g2, g3, _, L, rfl, ⟨rfl, N⟩, F.1, F.2.1, F.2.2.mono h3 h4⟩
/-- the start of a law whose arguments hold no reference -/
theorem Sim.empty (Z : State) (ws : Ws) (h : Heap) : Sim Z ws 0 0 h.size [] h :=
  ⟨by simp, Nat.le_refl _, Nat.zero_le _, (fun q => absurd q (by decide)), (fun i o q => by simp at q)⟩
/-- the start of a law over one array of ints -/
theorem Sim.script {Z : State} (ws : Ws) {h : Heap} {a : Addr} {c : Cell} {vs : List Int32} (A : Arr Z h a c .int) (e : c.slots = (vs.map Value.int).toArray) : Sim Z ws 1 a h.size [(.array .int, vs.map Value.int)] h := by
  refine ⟨by simp, Nat.le_refl _, Nat.le_refl _, fun _ => A.lt, fun i o q => ?_⟩
  cases i with
  | zero =>
    cases q
    refine ⟨c, A, e.trans ?_⟩
    rw [List.map_map]; rfl
  | succ i => cases q
end Jvm.Own
namespace Jvm.Own
open Sem ClassFile Op Lib Jvm.Stand Jvm.Free Jvm.LawKit Jvm.RoadKit
/-! OWN 7: states of an object as plain functions -/
def ou {α : Type} (s : Nat → α) (i : Nat) (v : α) : Nat → α := fun j => if j = i then v else s j
theorem ou_a {α : Type} (s : Nat → α) (i : Nat) (v : α) (j : Nat) : ou s i v j = if j = i then v else s j := rfl
def pad (b : Nat) (pre : AHeap) : AHeap := (pre ++ List.replicate b (FieldType.int, [])).take b
theorem pad_len (b : Nat) (pre : AHeap) : (pad b pre).length = b := by simp [pad]
theorem pad_eq {b : Nat} {pre : AHeap} (h : pre.length = b) : pad b pre = pre := by subst h; simp [pad]
theorem pad_0 (pre : AHeap) : pad 0 pre = [] := by simp [pad]
theorem tot_cons (ws : Ws) (o : FieldType × List Value) (r : AHeap) : tot ws (o :: r) = cost ws o + tot ws r := by simp [tot]
theorem tot_append (ws : Ws) (a r : AHeap) : tot ws (a ++ r) = tot ws a + tot ws r := by simp [tot]
theorem tot_nil (ws : Ws) : tot ws [] = 0 := rfl
theorem pad_get (b : Nat) (pre r : AHeap) (i : Nat) : (pad b pre ++ r)[b + i]? = r[i]? := by
  rw [List.getElem?_append_right (by rw [pad_len]; omega), pad_len]; congr 1; omega
theorem pad_get0 (b : Nat) (pre r : AHeap) : (pad b pre ++ r)[b]? = r[0]? := pad_get b pre r 0
theorem pad_set (b : Nat) (pre r : AHeap) (i : Nat) (o : FieldType × List Value) : (pad b pre ++ r).set (b + i) o = pad b pre ++ r.set i o := by
  rw [List.set_append_right _ _ (by rw [pad_len]; omega), pad_len]; congr 2; omega
theorem pad_set0 (b : Nat) (pre r : AHeap) (o : FieldType × List Value) : (pad b pre ++ r).set b o = pad b pre ++ r.set 0 o := pad_set b pre r 0 o
theorem rCode_of {ws : Ws} {y : MethodName} {b : ByteArray} {m i : Nat} {r : Option FieldType} (h : ws[i]? = some (.code y b m r)) (h2 : (ws.take i).all (fun d => match d with | .code z _ _ _ => !decide (z = y) | _ => true) = true) : rCode ws y = some (b, m, r) := by
  have e : ws = ws.take i ++ (.code y b m r :: ws.drop (i + 1)) := by
    obtain ⟨hi, hg⟩ := List.getElem?_eq_some_iff.mp h
    rw [← hg, ← List.drop_eq_getElem_cons hi, List.take_append_drop]
  unfold rCode
  rw [e, List.findSome?_append]
  have e1 : (ws.take i).findSome? (fun d => match d with | .code z b m r => if z = y then some (b, m, r) else none | _ => none) = none := by
    rw [List.findSome?_eq_none_iff]
    intro d hd
    have q := List.all_eq_true.mp h2 d hd
    split
    · rename_i z b' m' r'
      simp at q
      simp [q]
    · rfl
  rw [e1]
  simp
theorem cR_of {ws : Ws} {dn : Dn} {y y' : MethodName} {b : ByteArray} {mx i f' l' f l na sl : Nat} {r : Option FieldType} {sig : MethodDescriptor} (h1 : rMth ws y.cls i = some y') (h2 : rCode ws y' = some (b, mx, r)) (h3 : dnOf dn y' = some (f', l')) (h4 : dnOf dn y = some (f, l)) (h5 : parseMethodDescriptor y'.desc = some sig)
    (h6 : decide (hasInit ws y'.cls = true ∧ Jvm.plainName y'.cls = true ∧ y'.cls ≠ "java/lang/invoke/MethodHandle" ∧ y'.cls ≠ "java/lang/invoke/VarHandle" ∧ f' + 1 ≤ f ∧ mx + 11 + l' ≤ l) = true) (h7 : sig.parameters.length = na) (h8 : l - (mx + 11 + l') = sl) : cR ws dn y i = some (y', b, mx, r, na, sl) := by
  subst h7 h8
  unfold cR
  rw [h1]; dsimp only
  rw [h2, h3, h4, h5]; dsimp only
  rw [if_pos (of_decide_eq_true h6)]
theorem sR_of {ws : Ws} {dn : Dn} {y : MethodName} {i : Nat} {q : MethodName × ByteArray × Nat × Option FieldType × Nat × Nat} (h : cR ws dn y i = some q) (hs : hasStat ws q.1 = true) : sR ws dn y i = some q := by
  unfold sR; rw [h]; dsimp only; rw [if_pos hs]
theorem nR_of {ws : Ws} {dn : Dn} {y : MethodName} {i : Nat} {q : MethodName × ByteArray × Nat × Option FieldType × Nat × Nat} (h : cR ws dn y i = some q) (h1 : q.1.name = "<init>") (h2 : hasIM ws q.1 = true) (h3 : q.2.2.2.1 = none) : nR ws dn y i = some q := by
  unfold nR; rw [h]; dsimp only; rw [if_pos ⟨h1, h2, h3⟩]
theorem vR_of {ws : Ws} {dn : Dn} {y : MethodName} {i : Nat} {q : MethodName × ByteArray × Nat × Option FieldType × Nat × Nat} (h : cR ws dn y i = some q) (h1 : hasIM ws q.1 = true) (h2 : decide (hasPriv ws q.1 = true ∧ (rInst ws q.1.cls).isSome = true) = false) (h3 : decide (hasDecl ws q.1 = true ∧ hasSel ws q.1 = true) = true) : vR ws dn y i = some (false, q) := by
  unfold vR; rw [h]; dsimp only; rw [if_pos h1, if_neg (of_decide_eq_false h2), if_pos (of_decide_eq_true h3)]
theorem pR_of {ws : Ws} {dn : Dn} {y : MethodName} {i : Nat} {q : MethodName × ByteArray × Nat × Option FieldType × Nat × Nat} (h : cR ws dn y i = some q) (h1 : hasIM ws q.1 = true) (h2 : decide (hasPriv ws q.1 = true ∧ (rInst ws q.1.cls).isSome = true) = true) : vR ws dn y i = some (true, q) := by
  unfold vR; rw [h]; dsimp only; rw [if_pos h1, if_pos (of_decide_eq_true h2)]
def inB {α : Type} (j : Int32) (l : List α) : Prop := ¬ j < 0 ∧ j.toNatClampNeg < l.length
def getA (l : List Int32) (j : Int32) : Int32 := l.getD j.toNatClampNeg 0
def getL (l : List Int64) (j : Int32) : Int64 := l.getD j.toNatClampNeg 0
def setA {α : Type} (l : List α) (j : Int32) (v : α) : List α := l.set j.toNatClampNeg v
def c1 : Slot → Bool
  | .unset => true
  | .second => false
  | .val v => v.category == 1
theorem c1_u : c1 .unset = true := rfl
theorem c1_i (x : Int32) : c1 (.val (.int x)) = true := rfl
theorem c1_r (a : Nat) : c1 (.val (.ref a)) = true := rfl
theorem c1_n : c1 (.val .null) = true := rfl
theorem i_eq (x y : Int32) : if_icmp.holds .eq x y = decide (x = y) := by simp only [if_icmp.holds]; by_cases h : x = y <;> simp [h]
theorem i_ne (x y : Int32) : if_icmp.holds .ne x y = !decide (x = y) := by simp only [if_icmp.holds]; by_cases h : x = y <;> simp [h]
theorem i_lt (x y : Int32) : if_icmp.holds .lt x y = decide (x < y) := rfl
theorem i_gt (x y : Int32) : if_icmp.holds .gt x y = decide (y < x) := rfl
theorem i_ge (x y : Int32) : if_icmp.holds .ge x y = !decide (x < y) := by
  show decide (y ≤ x) = _
  have e1 : (y ≤ x) ↔ ¬ (x < y) := by rw [Int32.le_iff_toInt_le, Int32.lt_iff_toInt_lt]; omega
  by_cases h : x < y
  · have : ¬ y ≤ x := fun g => e1.mp g h
    simp [h, this]
  · have := e1.mpr h
    simp [h, this]
theorem i_le (x y : Int32) : if_icmp.holds .le x y = !decide (y < x) := i_ge y x
theorem z_eq (x : Int32) : ifCond.holds .eq x = decide (x = 0) := i_eq x 0
theorem z_ne (x : Int32) : ifCond.holds .ne x = !decide (x = 0) := i_ne x 0
theorem z_lt (x : Int32) : ifCond.holds .lt x = decide (x < 0) := rfl
theorem z_gt (x : Int32) : ifCond.holds .gt x = decide (0 < x) := rfl
theorem z_ge (x : Int32) : ifCond.holds .ge x = !decide (x < 0) := i_ge x 0
theorem z_le (x : Int32) : ifCond.holds .le x = !decide (0 < x) := i_le x 0
theorem nb0 : nar .boolean 0 = 0 := by decide
theorem nb1 : nar .boolean 1 = 1 := by decide
section
variable {ws : Ws} {dn : Dn} {k : Nat} {y : MethodName} {bytes : ByteArray} {ret : Option FieldType} {pc : Nat} {ls : List Slot} {st : List Value} {H : AHeap} {Q : Option Value → AHeap → Prop}
theorem W_stuck (h : act ws dn k y bytes ret pc ls st H = none) : W ws dn k y bytes ret pc ls st H Q = False := by
  refine propext ⟨fun ⟨n, v, H1, h1, h2⟩ => ?_, False.elim⟩
  cases n with
  | zero => cases h1
  | succ n => rw [run, h] at h1; cases h1
theorem stl_c1 {i : Nat} {o : Slot} {v : Value} (ho : ls[i]? = some o) (hc : c1 o = true) (hv : v.category = 1) : stl ls i v = some (ls.set i (.val v)) := by
  have h := XS.store1 (l := ls.toArray) (i := i) (v := v) (o := o) (by simpa using ho) (by
    cases o with
    | unset => exact Or.inl rfl
    | second => cases hc
    | val w => exact Or.inr ⟨w, rfl, by simpa [c1] using hc⟩) hv
  unfold stl
  rw [h]; simp
/-- a store of one word -/
theorem w_st {ins : Instr} {len i : Nat} {o : Slot} {v : Value} {p : Value → Bool} {nx : Nat} {ls' : List Slot} (hd : decode bytes pc = .ok (ins, len)) (hx : xstep ins len pc ls (v :: st) = stV p nx i ls (v :: st)) (hp : p v = true) (hv : v.category = 1) (ho : ls[i]? = some o) (hs : ls.set i (.val v) = ls') (hc : c1 o = true) :
    W ws dn k y bytes ret pc ls (v :: st) H Q = W ws dn k y bytes ret nx ls' st H Q := by
  subst hs
  exact w_x hd (by rw [hx]; simp only [stV, hp, if_true, stl_c1 ho hc hv, Option.map_some])
theorem w_iinc {i : Nat} {c : Int} {x z : Int32} {ls' : List Slot} (hd : decode bytes pc = .ok (.iinc i c, 3)) (ho : ls[i]? = some (.val (.int x))) (hz : Int32.ofInt c = z) (hs : ls.set i (.val (.int (x + z))) = ls') :
    W ws dn k y bytes ret pc ls st H Q = W ws dn k y bytes ret (pc + 3) ls' st H Q := by
  subst hs hz
  exact w_x hd (by simp only [xstep, chk, if_true, ho, stl_c1 (v := .int (x + Int32.ofInt c)) ho rfl rfl, Option.map_some])
theorem w_con {ins : Instr} {len nx : Nat} {v v' : Value} (hd : decode bytes pc = .ok (ins, len)) (hx : xstep ins len pc ls st = some (nx, ls, v :: st)) (hv : v = v') : W ws dn k y bytes ret pc ls st H Q = W ws dn k y bytes ret nx ls (v' :: st) H Q := by
  subst hv; exact w_x hd hx
theorem w_ifN {cd : ClassFile.Cond} {o : Int} {x : Int32} {t : Nat} {P : Prop} [Decidable P] (hd : decode bytes pc = .ok (.ifCond cd o, 3)) (hp : ifCond.holds cd x = !decide P) (hj : jmp pc o = some t) :
    W ws dn k y bytes ret pc ls (.int x :: st) H Q = if P then W ws dn k y bytes ret (pc + 3) ls st H Q else W ws dn k y bytes ret t ls st H Q := by
  split
  · exact w_x hd (by simp only [xstep, chk, br, hp, hj, if_true]; simp [*])
  · exact w_x hd (by simp only [xstep, chk, br, hp, hj, if_true]; simp [*])
theorem w_icmpN {cd : ClassFile.Cond} {o : Int} {x1 x2 : Int32} {t : Nat} {P : Prop} [Decidable P] (hd : decode bytes pc = .ok (.if_icmp cd o, 3)) (hp : if_icmp.holds cd x1 x2 = !decide P) (hj : jmp pc o = some t) :
    W ws dn k y bytes ret pc ls (.int x2 :: .int x1 :: st) H Q = if P then W ws dn k y bytes ret (pc + 3) ls st H Q else W ws dn k y bytes ret t ls st H Q := by
  split
  · exact w_x hd (by simp only [xstep, chk, br, hp, hj, if_true]; simp [*])
  · exact w_x hd (by simp only [xstep, chk, br, hp, hj, if_true]; simp [*])
theorem ld_stuck {ins : Instr} {a : Nat} {j : Int32} {ty : FieldType} {vs : List Value} (hd : decode bytes pc = .ok (ins, 1)) (hi : ldOk ins ty = true) (ho : H[a]? = some (.array ty, vs)) (hj : ¬ (¬ j < 0 ∧ j.toNatClampNeg < vs.length)) : act ws dn k y bytes ret pc ls (.int j :: .ref a :: st) H = none := by
  have hv : j < 0 ∨ vs[j.toNatClampNeg]? = none := by
    by_cases q : j < 0
    · exact Or.inl q
    · exact Or.inr (List.getElem?_eq_none (Nat.le_of_not_lt fun g => hj ⟨q, g⟩))
  unfold ldOk at hi
  split at hi
  all_goals first
    | (rw [act_c hd rfl (by rcases hv with q | q <;> simp [hstep, chk, hLd, okT, okB, ho, q])]; rfl)
    | cases hi
theorem st_stuck {ins : Instr} {a : Nat} {j : Int32} {ty : FieldType} {vs : List Value} {v : Value} (hd : decode bytes pc = .ok (ins, 1)) (hi : stOk ins ty = true) (ho : H[a]? = some (.array ty, vs)) (hj : ¬ (¬ j < 0 ∧ j.toNatClampNeg < vs.length)) : act ws dn k y bytes ret pc ls (v :: .int j :: .ref a :: st) H = none := by
  have hv : ¬ (¬ j < 0 ∧ j.toNatClampNeg < vs.length) := hj
  unfold stOk at hi
  split at hi
  all_goals first
    | (rw [act_c hd rfl (by simp only [hstep, chk, hSt, okT, okB, ho, if_true]; rw [if_neg (fun q => hv q.2.2)])]; rfl)
    | cases hi
theorem w_ild {ins : Instr} {a : Nat} {j : Int32} {ty : FieldType} {l : List Int32} (hd : decode bytes pc = .ok (ins, 1)) (hi : ldOk ins ty = true) (ho : H[a]? = some (.array ty, l.map Value.int)) :
    W ws dn k y bytes ret pc ls (.int j :: .ref a :: st) H Q = (inB j l ∧ W ws dn k y bytes ret (pc + 1) ls (.int (getA l j) :: st) H Q) := by
  by_cases h : inB j l
  · rw [w_ald hd hi ho h.1 (v := .int (getA l j)) (by simp [getA, h.2])]
    simp [h]
  · rw [W_stuck (ld_stuck hd hi ho (by simpa [inB] using h))]
    simp [h]
theorem w_lld {a : Nat} {j : Int32} {l : List Int64} (hd : decode bytes pc = .ok (.laload, 1)) (ho : H[a]? = some (.array .long, l.map Value.long)) :
    W ws dn k y bytes ret pc ls (.int j :: .ref a :: st) H Q = (inB j l ∧ W ws dn k y bytes ret (pc + 1) ls (.long (getL l j) :: st) H Q) := by
  by_cases h : inB j l
  · rw [w_ald hd rfl ho h.1 (v := .long (getL l j)) (by simp [getL, h.2])]
    simp [h]
  · rw [W_stuck (ld_stuck hd rfl ho (by simpa [inB] using h))]
    simp [h]
theorem w_ist {ins : Instr} {a : Nat} {j v v' : Int32} {ty : FieldType} {l : List Int32} {H' : AHeap} (hd : decode bytes pc = .ok (ins, 1)) (hi : stOk ins ty = true) (ho : H[a]? = some (.array ty, l.map Value.int)) (hk : k ≤ a) (hv : putv ty (.int v) = some (.int v')) (hH : H.set a (.array ty, (setA l j v').map Value.int) = H') :
    W ws dn k y bytes ret pc ls (.int v :: .int j :: .ref a :: st) H Q = (inB j l ∧ W ws dn k y bytes ret (pc + 1) ls st H' Q) := by
  by_cases h : inB j l
  · rw [w_ast (H' := H') hd hi ho hk h.1 (by simpa using h.2) hv (by rw [← hH, setA, List.map_set])]
    simp [h]
  · rw [W_stuck (st_stuck hd hi ho (by simpa [inB] using h))]
    simp [h]
theorem w_lst {a : Nat} {j : Int32} {v : Int64} {l : List Int64} {H' : AHeap} (hd : decode bytes pc = .ok (.lastore, 1)) (ho : H[a]? = some (.array .long, l.map Value.long)) (hk : k ≤ a) (hH : H.set a (.array .long, (setA l j v).map Value.long) = H') :
    W ws dn k y bytes ret pc ls (.long v :: .int j :: .ref a :: st) H Q = (inB j l ∧ W ws dn k y bytes ret (pc + 1) ls st H' Q) := by
  by_cases h : inB j l
  · rw [w_ast (H' := H') hd rfl ho hk h.1 (by simpa using h.2) rfl (by rw [← hH, setA, List.map_set])]
    simp [h]
  · rw [W_stuck (st_stuck hd rfl ho (by simpa [inB] using h))]
    simp [h]
theorem w_div {ins : Instr} {f : Int32 → Int32 → Int32} {x z : Int32} (hd : decode bytes pc = .ok (ins, 1)) (hx : ∀ st, xstep ins 1 pc ls st = d2 f (pc + 1) ls st) (hh : hstep ws k y ins 1 pc (.int z :: .int x :: st) H = none) (hc : cstep ws dn y ret ins 1 pc ls (.int z :: .int x :: st) H = none) :
    W ws dn k y bytes ret pc ls (.int z :: .int x :: st) H Q = (z ≠ 0 ∧ W ws dn k y bytes ret (pc + 1) ls (.int (f x z) :: st) H Q) := by
  by_cases h : z = 0
  · rw [W_stuck (by rw [act_c hd (by rw [hx]; simp [d2, h]) hh, hc])]; simp [h]
  · rw [w_x (pc' := pc + 1) (ls' := ls) (st' := .int (f x z) :: st) hd (by rw [hx]; simp only [d2, h, if_false])]; simp [h]
/-- a field's array made in a constructor -/
theorem w_iarr {i j p1 p2 p3 : Nat} {C : String} {vs : List Value} {r : AHeap} {n : Int32} {v : Value} {aty : ArrayType} {ty at' : FieldType} {l0 : Slot} {lr : List Slot} {ins : Instr} {len : Nat} {b : Nat} (hl : l0 = .val (.ref b)) (hH : H.length = b) (hk : k ≤ b)
    (d0 : decode bytes pc = .ok (.aload_n 0, 1)) (e0 : pc + 1 = p1) (dn1 : decode bytes p1 = .ok (ins, len)) (hx : ∀ st, xstep ins len p1 (l0 :: lr) st = some (p2, l0 :: lr, v :: st)) (hv : v = .int n) (d2' : decode bytes p2 = .ok (.newarray aty, 2)) (ht : newarray.typeOf aty = ty) (hr : hasArr ws ty = true) (hn : ¬ n < 0) (hb : n.toNatClampNeg * 8 ≤ 536870912) (e3 : p2 + 2 = p3)
    (d3 : decode bytes p3 = .ok (.putfield i, 3)) (hp : pfR ws y.cls y.name i = some (C, j, .array at')) (hj : j < vs.length) :
    W ws dn k y bytes ret pc (l0 :: lr) [] (H ++ (.object C, vs) :: r) Q = W ws dn k y bytes ret (p3 + 3) (l0 :: lr) [] (H ++ (.object C, vs.set j (.ref (b + (r.length + 1)))) :: (r ++ [(.array ty, List.replicate n.toNatClampNeg (defaultValue ty))])) Q := by
  subst hl e0 e3 hv hH
  rw [w_x d0 (ls' := .val (.ref H.length) :: lr) (st' := [.ref H.length]) (pc' := pc + 1) rfl, w_x dn1 (hx _), w_newA d2' ht hr hn hb]
  have e1 : (H ++ (FieldType.object C, vs) :: r).length = H.length + (r.length + 1) := by simp
  rw [e1, w_put d3 hp (vs := vs) (H' := H ++ (.object C, vs.set j (.ref (H.length + (r.length + 1)))) :: (r ++ [(.array ty, List.replicate n.toNatClampNeg (defaultValue ty))])) (by simp) hk hj rfl (by simp)]
/-- a field's plain value put at a constructor's head -/
theorem w_iint {i j p1 p2 : Nat} {C : String} {vs : List Value} {r : AHeap} {v v0 v' : Value} {ty : FieldType} {l0 : Slot} {lr : List Slot} {ins : Instr} {len : Nat} {b : Nat} (hl : l0 = .val (.ref b)) (hH : H.length = b) (hk : k ≤ b)
    (d0 : decode bytes pc = .ok (.aload_n 0, 1)) (e0 : pc + 1 = p1) (dn1 : decode bytes p1 = .ok (ins, len)) (hx : ∀ st, xstep ins len p1 (l0 :: lr) st = some (p2, l0 :: lr, v0 :: st)) (hv : v0 = v)
    (d3 : decode bytes p2 = .ok (.putfield i, 3)) (hp : pfR ws y.cls y.name i = some (C, j, ty)) (hv' : putv ty v = some v') (hj : j < vs.length) :
    W ws dn k y bytes ret pc (l0 :: lr) [] (H ++ (.object C, vs) :: r) Q = W ws dn k y bytes ret (p2 + 3) (l0 :: lr) [] (H ++ (.object C, vs.set j v') :: r) Q := by
  subst hl e0 hv hH
  rw [w_x d0 (ls' := .val (.ref H.length) :: lr) (st' := [.ref H.length]) (pc' := pc + 1) rfl, w_x dn1 (hx _)]
  rw [w_put d3 hp (vs := vs) (H' := H ++ (.object C, vs.set j v') :: r) (by simp) hk hj hv' (by simp)]
end
end Jvm.Own
namespace Jvm.Own
open Sem ClassFile Op Lib Jvm.Stand Jvm.Free Jvm.LawKit Jvm.RoadKit
theorem getA_rep (n : Nat) (j : Int32) : getA (List.replicate n 0) j = 0 := by
  simp only [getA, List.getD_eq_getElem?_getD, List.getElem?_replicate]
  split <;> rfl
/-- the array's words as plain ints -/
theorem script_of {s : State} {a : Addr} {c : Cell} (hf : Fit s) (A : Arr s s.heap a c .int) (hl : c.slots.size < 2 ^ 31) : ∃ vs : List Int32, c.slots = (vs.map Value.int).toArray := by
  have h : ∀ v ∈ c.slots.toList, ∃ x : Int32, v = .int x := fun v hv => by
    obtain ⟨i, hi, e⟩ := List.getElem_of_mem hv
    have hi' : i < c.slots.size := by simpa using hi
    have e1 : (Nat.toInt32 i).toNatClampNeg = i := by simp only [Int32.toNatClampNeg, len_toInt (Nat.lt_trans hi' hl)]; rfl
    obtain ⟨w, h1, h2⟩ := elem_fit hf A (idx_in hi' hl)
    rw [e1] at h1
    have : w = v := by rw [Array.getElem?_eq_getElem hi'] at h1; rw [← e]; simpa using (Option.some.inj h1).symm
    subst this
    exact fit_I h2 (by simp)
  have g : ∀ l : List Value, (∀ v ∈ l, ∃ x : Int32, v = .int x) → ∃ vs : List Int32, l = vs.map Value.int := fun l => by
    induction l with
    | nil => exact fun _ => ⟨[], rfl⟩
    | cons v r ih =>
      intro q
      obtain ⟨x, rfl⟩ := q _ (List.mem_cons_self ..)
      obtain ⟨vs, e⟩ := ih fun w hw => q w (List.mem_cons_of_mem _ hw)
      exact ⟨x :: vs, by rw [e]; rfl⟩
  obtain ⟨vs, e⟩ := g _ h
  exact ⟨vs, by rw [← e]⟩
end Jvm.Own
namespace Jvm.Own
open Sem ClassFile Op Lib Jvm.Stand Jvm.Free Jvm.LawKit Jvm.RoadKit
/-! OWN 8: small facts on arrays and ints -/
theorem toNat_eq (j : Int32) : j.toNatClampNeg = j.toInt.toNat := rfl
theorem lt_i {x y : Int32} : x < y ↔ x.toInt < y.toInt := Int32.lt_iff_toInt_lt
theorem inB_iff {α : Type} {j : Int32} {l : List α} : inB j l ↔ 0 ≤ j.toInt ∧ j.toInt < (l.length : Int) := by
  have e0 : (0 : Int32).toInt = 0 := rfl
  unfold inB
  rw [lt_i, toNat_eq, e0]
  omega
theorem inB_lt {α : Type} {j n : Int32} {l : List α} (hl : (l.length : Int) = n.toInt) (h0 : ¬ j < 0) (h1 : j < n) : inB j l := by
  have e0 : (0 : Int32).toInt = 0 := rfl
  rw [inB_iff]
  rw [lt_i] at h0 h1
  rw [e0] at h0
  omega
theorem setA_len {α : Type} (l : List α) (j : Int32) (v : α) : (setA l j v).length = l.length := List.length_set
theorem getA_set {l : List Int32} {i j v : Int32} (h : inB i l) : getA (setA l i v) j = if j.toNatClampNeg = i.toNatClampNeg then v else getA l j := by
  simp only [getA, setA, List.getD_eq_getElem?_getD, List.getElem?_set]
  by_cases e : j.toNatClampNeg = i.toNatClampNeg
  · rw [e]; simp [h.2]
  · simp [e, Ne.symm e]
theorem getA_set2 (l : List Int32) (i j v : Int32) : getA (setA l i v) j = if j.toNatClampNeg = i.toNatClampNeg ∧ i.toNatClampNeg < l.length then v else getA l j := by
  simp only [getA, setA, List.getD_eq_getElem?_getD, List.getElem?_set]
  by_cases e : j.toNatClampNeg = i.toNatClampNeg
  · rw [e]
    by_cases q : i.toNatClampNeg < l.length <;> simp [q]
  · simp [e, Ne.symm e]
theorem len_ou {B A : Nat → List Int32} {j : Nat} {l : List Int32} (h : ∀ i, (A i).length = (B i).length) (hl : l.length = (B j).length) : ∀ i, (ou A j l i).length = (B i).length := fun i => by
  rw [ou_a]
  split
  · rename_i e; rw [e]; exact hl
  · exact h i
end Jvm.Own
namespace Jvm.Own
open Sem ClassFile Op Lib Jvm.Stand Jvm.Free Jvm.LawKit Jvm.RoadKit
/-! OWN 9: a normal form of states; masks and ranges -/
theorem ou_same {α : Type} (s : Nat → α) (i : Nat) (v w : α) : ou (ou s i v) i w = ou s i w := by
  funext j
  simp only [ou_a]
  by_cases h : j = i <;> simp [h]
theorem ou_comm {α : Type} {s : Nat → α} {i j : Nat} {v w : α} (h : j < i) : ou (ou s i v) j w = ou (ou s j w) (i + 0) v := by
  show ou (ou s i v) j w = ou (ou s j w) i v
  funext k
  simp only [ou_a]
  by_cases h1 : k = j
  · have h2 : ¬ k = i := by omega
    simp [h1]
    intro h3; omega
  · simp [h1]
theorem setA_same {α : Type} (l : List α) (i : Int32) (v w : α) : setA (setA l i v) i w = setA l i w := by
  simp only [setA, List.set_set]
theorem clamp_ne {i j : Int32} (h0 : ¬ j < 0) (h : j < i) : j.toNatClampNeg ≠ i.toNatClampNeg := by
  have e0 : (0 : Int32).toInt = 0 := rfl
  rw [lt_i] at *
  rw [toNat_eq, toNat_eq]
  omega
theorem setA_comm {α : Type} {l : List α} {i j : Int32} {v w : α} (h0 : ¬ j < 0) (h : j < i) : setA (setA l i v) j w = setA (setA l j w) (i + 0) v := by
  rw [Int32.add_zero]
  simp only [setA]
  exact List.set_comm _ _ (Ne.symm (clamp_ne h0 h))
theorem lt_irr (x : Int32) : (x < x) = False := by
  apply propext
  rw [lt_i]
  constructor
  · intro h; omega
  · exact False.elim
theorem bit1 (x : Int32) : x &&& 1 = 0 ∨ x &&& 1 = 1 := by
  have h : (x &&& 1).toBitVec.toNat = x.toBitVec.toNat % 2 := by
    rw [Int32.toBitVec_and, BitVec.toNat_and]
    exact Nat.and_one_is_mod _
  rcases Nat.mod_two_eq_zero_or_one x.toBitVec.toNat with e | e
  · exact Or.inl (Int32.toBitVec_inj.mp (BitVec.eq_of_toNat_eq (by rw [h, e]; rfl)))
  · exact Or.inr (Int32.toBitVec_inj.mp (BitVec.eq_of_toNat_eq (by rw [h, e]; rfl)))
theorem and_bd (x m : Int32) (hm : m.toBitVec.toNat < 2147483648) : 0 ≤ (x &&& m).toInt ∧ (x &&& m).toInt ≤ (m.toBitVec.toNat : Int) := by
  have h : (x &&& m).toBitVec.toNat ≤ m.toBitVec.toNat := by
    rw [Int32.toBitVec_and, BitVec.toNat_and]
    exact Nat.and_le_right
  have e : (x &&& m).toInt = ((x &&& m).toBitVec.toNat : Int) := BitVec.toInt_eq_toNat_of_lt (by omega)
  rw [e]
  omega
theorem rng {x : Int32} {n : Nat} (h0 : 0 ≤ x.toInt) (h1 : x.toInt < n) : ∃ k, k < n ∧ x = Int32.ofNat k := by
  have e : (x.toInt.toNat : Int) = x.toInt := Int.toNat_of_nonneg h0
  refine ⟨x.toInt.toNat, by omega, ?_⟩
  have e2 : Int32.ofNat x.toInt.toNat = Int32.ofInt (x.toInt.toNat : Int) := rfl
  rw [e2, e, Int32.ofInt_toInt]
theorem getL_rep (n : Nat) (j : Int32) : getL (List.replicate n 0) j = 0 := by
  simp only [getL, List.getD_eq_getElem?_getD, List.getElem?_replicate]
  split <;> rfl
theorem getL_set2 (l : List Int64) (i j : Int32) (v : Int64) : getL (setA l i v) j = if j.toNatClampNeg = i.toNatClampNeg ∧ i.toNatClampNeg < l.length then v else getL l j := by
  simp only [getL, setA, List.getD_eq_getElem?_getD, List.getElem?_set]
  by_cases e : j.toNatClampNeg = i.toNatClampNeg
  · rw [e]
    by_cases q : i.toNatClampNeg < l.length <;> simp [q]
  · simp [e, Ne.symm e]
theorem add_i {a b : Int32} (h : -2147483648 ≤ a.toInt + b.toInt) (h' : a.toInt + b.toInt < 2147483648) : (a + b).toInt = a.toInt + b.toInt := by
  rw [Int32.toInt_add]
  have e : ((2 ^ 32 : Nat) : Int) = 4294967296 := rfl
  exact Int.bmod_eq_of_le (by rw [e]; omega) (by rw [e]; omega)
theorem sub_i {a b : Int32} (h : -2147483648 ≤ a.toInt - b.toInt) (h' : a.toInt - b.toInt < 2147483648) : (a - b).toInt = a.toInt - b.toInt := by
  rw [Int32.toInt_sub]
  have e : ((2 ^ 32 : Nat) : Int) = 4294967296 := rfl
  exact Int.bmod_eq_of_le (by rw [e]; omega) (by rw [e]; omega)
theorem mul_i {a b : Int32} (h : -2147483648 ≤ a.toInt * b.toInt) (h' : a.toInt * b.toInt < 2147483648) : (a * b).toInt = a.toInt * b.toInt := by
  rw [Int32.toInt_mul]
  have e : ((2 ^ 32 : Nat) : Int) = 4294967296 := rfl
  exact Int.bmod_eq_of_le (by rw [e]; omega) (by rw [e]; omega)
theorem i_0 : (0 : Int32).toInt = 0 := rfl
theorem i_1 : (1 : Int32).toInt = 1 := rfl
theorem add1_i {a : Int32} (h : a.toInt < 2147483647) : (a + 1).toInt = a.toInt + 1 := by
  have := Int32.le_toInt a
  exact add_i (by rw [i_1]; omega) (by rw [i_1]; omega)
theorem nn_i {a : Int32} : ¬ a < 0 ↔ 0 ≤ a.toInt := by rw [lt_i, i_0]; omega
theorem succ_nn {a : Int32} (h0 : ¬ a < 0) (h : a.toInt < 2147483647) : ¬ a + 1 < 0 := by
  rw [nn_i] at *
  rw [add1_i h]
  omega
theorem inB_set {α : Type} {l : List α} {i j : Int32} {v : α} : inB j (setA l i v) = inB j l := by
  simp only [inB, setA_len]
theorem pad_1 (c : FieldType × List Value) : pad 1 [c] = [c] := rfl
def okS (l : Slot) : Prop := l = .unset ∨ ∃ z : Int32, l = .val (.int z)
theorem okS_u : okS .unset := Or.inl rfl
theorem okS_i (z : Int32) : okS (.val (.int z)) := Or.inr ⟨z, rfl⟩
end Jvm.Own
namespace Jvm.Pilot.@@N@@
open Jvm Jvm.ClassFile Sem Op Lib Jvm.Free Jvm.Stand Jvm.LawKit Jvm.RoadKit Bundle Jvm.Own Jvm.Pilot.@@N@@.Jvm.D
/-- frames and words that each method asks -/
def dn : Dn := [(⟨"ResponseTimeGate", "<init>", "(I)V"⟩, 1, 13), (⟨"ResponseTimeGate", "resetSim", "()V"⟩, 0, 0), (⟨"ResponseTimeGate", "beginTask", "(IIII)I"⟩, 1, 14), (⟨"ResponseTimeGate", "priorityTaken", "(I)Z"⟩, 0, 0), (⟨"ResponseTimeGate", "addSection", "(III)I"⟩, 1, 17), (⟨"ResponseTimeGate", "overlapsStaged", "(II)Z"⟩, 0, 0), (⟨"ResponseTimeGate", "commitTask", "()I"⟩, 3, 55), (⟨"ResponseTimeGate", "lcmWith", "(II)I"⟩, 1, 18), (⟨"ResponseTimeGate", "gcd", "(II)I"⟩, 0, 0), (⟨"ResponseTimeGate", "placeStaged", "(I)V"⟩, 0, 0), (⟨"ResponseTimeGate", "analyze", "(I)I"⟩, 2, 39), (⟨"ResponseTimeGate", "computeCeilings", "(I)V"⟩, 0, 0), (⟨"ResponseTimeGate", "blockingOf", "(II)I"⟩, 0, 0), (⟨"ResponseTimeGate", "responseOf", "(III)I"⟩, 1, 20), (⟨"ResponseTimeGate", "interference", "(III)I"⟩, 0, 0), (⟨"ResponseTimeGate", "adoptResults", "(I)V"⟩, 0, 0), (⟨"ResponseTimeGate", "failedTask", "()I"⟩, 0, 0), (⟨"ResponseTimeGate", "taskCount", "()I"⟩, 0, 0), (⟨"ResponseTimeGate", "bound", "(I)I"⟩, 1, 13), (⟨"ResponseTimeGate", "admitted", "(I)Z"⟩, 0, 0), (⟨"ResponseTimeGate", "blocking", "(I)I"⟩, 1, 13), (⟨"ResponseTimeGate", "ceiling", "(I)I"⟩, 0, 0), (⟨"ResponseTimeGate", "hyperperiod", "()I"⟩, 0, 0), (⟨"ResponseTimeGate", "run", "(I)I"⟩, 3, 45), (⟨"ResponseTimeGate", "tick", "()V"⟩, 2, 32), (⟨"ResponseTimeGate", "releaseJobs", "()V"⟩, 0, 0), (⟨"ResponseTimeGate", "pickRunning", "()I"⟩, 1, 14), (⟨"ResponseTimeGate", "activePriority", "(I)I"⟩, 0, 0), (⟨"ResponseTimeGate", "executeUnit", "(I)V"⟩, 1, 14), (⟨"ResponseTimeGate", "takeResourceIfStart", "(I)V"⟩, 0, 0), (⟨"ResponseTimeGate", "completeJob", "(I)V"⟩, 0, 0), (⟨"ResponseTimeGate", "checkMisses", "()V"⟩, 0, 0), (⟨"ResponseTimeGate", "time", "()I"⟩, 0, 0), (⟨"ResponseTimeGate", "misses", "()I"⟩, 0, 0), (⟨"ResponseTimeGate", "holder", "(I)I"⟩, 0, 0), (⟨"ResponseTimeGate", "jobsDone", "(I)I"⟩, 1, 13), (⟨"ResponseTimeGate", "maxResponse", "(I)I"⟩, 1, 13), (⟨"ResponseTimeGateL3", "u", "(II)I"⟩, 0, 0), (⟨"ResponseTimeGateL3", "law", "(IIIIII)Z"⟩, 4, 70)]
/- scalars: 0=cap 1=count 2=hyper 3=failed 4=staged 5=stT 6=stD 7=stC 8=stP 9=now 10=missCount; arrays: 0=per@1 1=dl@2 2=wc@3 3=pr@4 4=secS@5 5=secL@6 6=bnd@7 7=blk@8 8=ceil@9 9=stS@10 10=stL@11 11=candCeil@12 12=candB@13 13=candR@14 14=pend@15 15=rel@16 16=prog@17 17=held@18 18=done@19 19=maxR@20; longs: []; long arrays: [] -/
def objv (b : Nat) (s : Nat → Int32) : List Value := [.ref (b + 1), .ref (b + 2), .ref (b + 3), .ref (b + 4), .ref (b + 5), .ref (b + 6), .ref (b + 7), .ref (b + 8), .ref (b + 9), .ref (b + 10), .ref (b + 11), .ref (b + 12), .ref (b + 13), .ref (b + 14), .ref (b + 15), .ref (b + 16), .ref (b + 17), .ref (b + 18), .ref (b + 19), .ref (b + 20), .int (s 0), .int (s 1), .int (s 4), .int (s 3), .int (s 2), .int (s 9), .int (s 10), .int (s 5), .int (s 6), .int (s 7), .int (s 8)]
def put (b : Nat) (pre : AHeap) (s : Nat → Int32) (A : Nat → List Int32) (post : AHeap) : AHeap := pad b pre ++ ((.object "ResponseTimeGate", objv b s) :: (.array .int, (A 0).map Value.int) :: (.array .int, (A 1).map Value.int) :: (.array .int, (A 2).map Value.int) :: (.array .int, (A 3).map Value.int) :: (.array .int, (A 4).map Value.int) :: (.array .int, (A 5).map Value.int) :: (.array .int, (A 6).map Value.int) :: (.array .int, (A 7).map Value.int) :: (.array .int, (A 8).map Value.int) :: (.array .int, (A 9).map Value.int) :: (.array .int, (A 10).map Value.int) :: (.array .int, (A 11).map Value.int) :: (.array .int, (A 12).map Value.int) :: (.array .int, (A 13).map Value.int) :: (.array .boolean, (A 14).map Value.int) :: (.array .int, (A 15).map Value.int) :: (.array .int, (A 16).map Value.int) :: (.array .int, (A 17).map Value.int) :: (.array .int, (A 18).map Value.int) :: (.array .int, (A 19).map Value.int) :: post)
theorem put_o {b : Nat} {pre : AHeap} {s : Nat → Int32} {A : Nat → List Int32} {post : AHeap} : (put b pre s A post)[b]? = some (.object "ResponseTimeGate", objv b s) := pad_get0 _ _ _
theorem put_a0 {b : Nat} {pre : AHeap} {s : Nat → Int32} {A : Nat → List Int32} {post : AHeap} : (put b pre s A post)[b + 1]? = some (.array .int, (A 0).map Value.int) := pad_get _ _ _ 1
theorem put_w0 {b : Nat} {pre : AHeap} {s : Nat → Int32} {A : Nat → List Int32} {post : AHeap} {l : List Int32} : (put b pre s A post).set (b + 1) (.array .int, l.map Value.int) = put b pre s (ou A 0 l) post := pad_set _ _ _ 1 _
theorem put_a1 {b : Nat} {pre : AHeap} {s : Nat → Int32} {A : Nat → List Int32} {post : AHeap} : (put b pre s A post)[b + 2]? = some (.array .int, (A 1).map Value.int) := pad_get _ _ _ 2
theorem put_w1 {b : Nat} {pre : AHeap} {s : Nat → Int32} {A : Nat → List Int32} {post : AHeap} {l : List Int32} : (put b pre s A post).set (b + 2) (.array .int, l.map Value.int) = put b pre s (ou A 1 l) post := pad_set _ _ _ 2 _
theorem put_a2 {b : Nat} {pre : AHeap} {s : Nat → Int32} {A : Nat → List Int32} {post : AHeap} : (put b pre s A post)[b + 3]? = some (.array .int, (A 2).map Value.int) := pad_get _ _ _ 3
theorem put_w2 {b : Nat} {pre : AHeap} {s : Nat → Int32} {A : Nat → List Int32} {post : AHeap} {l : List Int32} : (put b pre s A post).set (b + 3) (.array .int, l.map Value.int) = put b pre s (ou A 2 l) post := pad_set _ _ _ 3 _
theorem put_a3 {b : Nat} {pre : AHeap} {s : Nat → Int32} {A : Nat → List Int32} {post : AHeap} : (put b pre s A post)[b + 4]? = some (.array .int, (A 3).map Value.int) := pad_get _ _ _ 4
theorem put_w3 {b : Nat} {pre : AHeap} {s : Nat → Int32} {A : Nat → List Int32} {post : AHeap} {l : List Int32} : (put b pre s A post).set (b + 4) (.array .int, l.map Value.int) = put b pre s (ou A 3 l) post := pad_set _ _ _ 4 _
theorem put_a4 {b : Nat} {pre : AHeap} {s : Nat → Int32} {A : Nat → List Int32} {post : AHeap} : (put b pre s A post)[b + 5]? = some (.array .int, (A 4).map Value.int) := pad_get _ _ _ 5
theorem put_w4 {b : Nat} {pre : AHeap} {s : Nat → Int32} {A : Nat → List Int32} {post : AHeap} {l : List Int32} : (put b pre s A post).set (b + 5) (.array .int, l.map Value.int) = put b pre s (ou A 4 l) post := pad_set _ _ _ 5 _
theorem put_a5 {b : Nat} {pre : AHeap} {s : Nat → Int32} {A : Nat → List Int32} {post : AHeap} : (put b pre s A post)[b + 6]? = some (.array .int, (A 5).map Value.int) := pad_get _ _ _ 6
theorem put_w5 {b : Nat} {pre : AHeap} {s : Nat → Int32} {A : Nat → List Int32} {post : AHeap} {l : List Int32} : (put b pre s A post).set (b + 6) (.array .int, l.map Value.int) = put b pre s (ou A 5 l) post := pad_set _ _ _ 6 _
theorem put_a6 {b : Nat} {pre : AHeap} {s : Nat → Int32} {A : Nat → List Int32} {post : AHeap} : (put b pre s A post)[b + 7]? = some (.array .int, (A 6).map Value.int) := pad_get _ _ _ 7
theorem put_w6 {b : Nat} {pre : AHeap} {s : Nat → Int32} {A : Nat → List Int32} {post : AHeap} {l : List Int32} : (put b pre s A post).set (b + 7) (.array .int, l.map Value.int) = put b pre s (ou A 6 l) post := pad_set _ _ _ 7 _
theorem put_a7 {b : Nat} {pre : AHeap} {s : Nat → Int32} {A : Nat → List Int32} {post : AHeap} : (put b pre s A post)[b + 8]? = some (.array .int, (A 7).map Value.int) := pad_get _ _ _ 8
theorem put_w7 {b : Nat} {pre : AHeap} {s : Nat → Int32} {A : Nat → List Int32} {post : AHeap} {l : List Int32} : (put b pre s A post).set (b + 8) (.array .int, l.map Value.int) = put b pre s (ou A 7 l) post := pad_set _ _ _ 8 _
theorem put_a8 {b : Nat} {pre : AHeap} {s : Nat → Int32} {A : Nat → List Int32} {post : AHeap} : (put b pre s A post)[b + 9]? = some (.array .int, (A 8).map Value.int) := pad_get _ _ _ 9
theorem put_w8 {b : Nat} {pre : AHeap} {s : Nat → Int32} {A : Nat → List Int32} {post : AHeap} {l : List Int32} : (put b pre s A post).set (b + 9) (.array .int, l.map Value.int) = put b pre s (ou A 8 l) post := pad_set _ _ _ 9 _
theorem put_a9 {b : Nat} {pre : AHeap} {s : Nat → Int32} {A : Nat → List Int32} {post : AHeap} : (put b pre s A post)[b + 10]? = some (.array .int, (A 9).map Value.int) := pad_get _ _ _ 10
theorem put_w9 {b : Nat} {pre : AHeap} {s : Nat → Int32} {A : Nat → List Int32} {post : AHeap} {l : List Int32} : (put b pre s A post).set (b + 10) (.array .int, l.map Value.int) = put b pre s (ou A 9 l) post := pad_set _ _ _ 10 _
theorem put_a10 {b : Nat} {pre : AHeap} {s : Nat → Int32} {A : Nat → List Int32} {post : AHeap} : (put b pre s A post)[b + 11]? = some (.array .int, (A 10).map Value.int) := pad_get _ _ _ 11
theorem put_w10 {b : Nat} {pre : AHeap} {s : Nat → Int32} {A : Nat → List Int32} {post : AHeap} {l : List Int32} : (put b pre s A post).set (b + 11) (.array .int, l.map Value.int) = put b pre s (ou A 10 l) post := pad_set _ _ _ 11 _
theorem put_a11 {b : Nat} {pre : AHeap} {s : Nat → Int32} {A : Nat → List Int32} {post : AHeap} : (put b pre s A post)[b + 12]? = some (.array .int, (A 11).map Value.int) := pad_get _ _ _ 12
theorem put_w11 {b : Nat} {pre : AHeap} {s : Nat → Int32} {A : Nat → List Int32} {post : AHeap} {l : List Int32} : (put b pre s A post).set (b + 12) (.array .int, l.map Value.int) = put b pre s (ou A 11 l) post := pad_set _ _ _ 12 _
theorem put_a12 {b : Nat} {pre : AHeap} {s : Nat → Int32} {A : Nat → List Int32} {post : AHeap} : (put b pre s A post)[b + 13]? = some (.array .int, (A 12).map Value.int) := pad_get _ _ _ 13
theorem put_w12 {b : Nat} {pre : AHeap} {s : Nat → Int32} {A : Nat → List Int32} {post : AHeap} {l : List Int32} : (put b pre s A post).set (b + 13) (.array .int, l.map Value.int) = put b pre s (ou A 12 l) post := pad_set _ _ _ 13 _
theorem put_a13 {b : Nat} {pre : AHeap} {s : Nat → Int32} {A : Nat → List Int32} {post : AHeap} : (put b pre s A post)[b + 14]? = some (.array .int, (A 13).map Value.int) := pad_get _ _ _ 14
theorem put_w13 {b : Nat} {pre : AHeap} {s : Nat → Int32} {A : Nat → List Int32} {post : AHeap} {l : List Int32} : (put b pre s A post).set (b + 14) (.array .int, l.map Value.int) = put b pre s (ou A 13 l) post := pad_set _ _ _ 14 _
theorem put_a14 {b : Nat} {pre : AHeap} {s : Nat → Int32} {A : Nat → List Int32} {post : AHeap} : (put b pre s A post)[b + 15]? = some (.array .boolean, (A 14).map Value.int) := pad_get _ _ _ 15
theorem put_w14 {b : Nat} {pre : AHeap} {s : Nat → Int32} {A : Nat → List Int32} {post : AHeap} {l : List Int32} : (put b pre s A post).set (b + 15) (.array .boolean, l.map Value.int) = put b pre s (ou A 14 l) post := pad_set _ _ _ 15 _
theorem put_a15 {b : Nat} {pre : AHeap} {s : Nat → Int32} {A : Nat → List Int32} {post : AHeap} : (put b pre s A post)[b + 16]? = some (.array .int, (A 15).map Value.int) := pad_get _ _ _ 16
theorem put_w15 {b : Nat} {pre : AHeap} {s : Nat → Int32} {A : Nat → List Int32} {post : AHeap} {l : List Int32} : (put b pre s A post).set (b + 16) (.array .int, l.map Value.int) = put b pre s (ou A 15 l) post := pad_set _ _ _ 16 _
theorem put_a16 {b : Nat} {pre : AHeap} {s : Nat → Int32} {A : Nat → List Int32} {post : AHeap} : (put b pre s A post)[b + 17]? = some (.array .int, (A 16).map Value.int) := pad_get _ _ _ 17
theorem put_w16 {b : Nat} {pre : AHeap} {s : Nat → Int32} {A : Nat → List Int32} {post : AHeap} {l : List Int32} : (put b pre s A post).set (b + 17) (.array .int, l.map Value.int) = put b pre s (ou A 16 l) post := pad_set _ _ _ 17 _
theorem put_a17 {b : Nat} {pre : AHeap} {s : Nat → Int32} {A : Nat → List Int32} {post : AHeap} : (put b pre s A post)[b + 18]? = some (.array .int, (A 17).map Value.int) := pad_get _ _ _ 18
theorem put_w17 {b : Nat} {pre : AHeap} {s : Nat → Int32} {A : Nat → List Int32} {post : AHeap} {l : List Int32} : (put b pre s A post).set (b + 18) (.array .int, l.map Value.int) = put b pre s (ou A 17 l) post := pad_set _ _ _ 18 _
theorem put_a18 {b : Nat} {pre : AHeap} {s : Nat → Int32} {A : Nat → List Int32} {post : AHeap} : (put b pre s A post)[b + 19]? = some (.array .int, (A 18).map Value.int) := pad_get _ _ _ 19
theorem put_w18 {b : Nat} {pre : AHeap} {s : Nat → Int32} {A : Nat → List Int32} {post : AHeap} {l : List Int32} : (put b pre s A post).set (b + 19) (.array .int, l.map Value.int) = put b pre s (ou A 18 l) post := pad_set _ _ _ 19 _
theorem put_a19 {b : Nat} {pre : AHeap} {s : Nat → Int32} {A : Nat → List Int32} {post : AHeap} : (put b pre s A post)[b + 20]? = some (.array .int, (A 19).map Value.int) := pad_get _ _ _ 20
theorem put_w19 {b : Nat} {pre : AHeap} {s : Nat → Int32} {A : Nat → List Int32} {post : AHeap} {l : List Int32} : (put b pre s A post).set (b + 20) (.array .int, l.map Value.int) = put b pre s (ou A 19 l) post := pad_set _ _ _ 20 _
theorem put_s0 {b : Nat} {pre : AHeap} {s : Nat → Int32} {A : Nat → List Int32} {post : AHeap} {v : Int32} : (put b pre s A post).set b (.object "ResponseTimeGate", (objv b s).set 20 (.int v)) = put b pre (ou s 0 v) A post := pad_set0 _ _ _ _
theorem put_s1 {b : Nat} {pre : AHeap} {s : Nat → Int32} {A : Nat → List Int32} {post : AHeap} {v : Int32} : (put b pre s A post).set b (.object "ResponseTimeGate", (objv b s).set 21 (.int v)) = put b pre (ou s 1 v) A post := pad_set0 _ _ _ _
theorem put_s4 {b : Nat} {pre : AHeap} {s : Nat → Int32} {A : Nat → List Int32} {post : AHeap} {v : Int32} : (put b pre s A post).set b (.object "ResponseTimeGate", (objv b s).set 22 (.int v)) = put b pre (ou s 4 v) A post := pad_set0 _ _ _ _
theorem put_s3 {b : Nat} {pre : AHeap} {s : Nat → Int32} {A : Nat → List Int32} {post : AHeap} {v : Int32} : (put b pre s A post).set b (.object "ResponseTimeGate", (objv b s).set 23 (.int v)) = put b pre (ou s 3 v) A post := pad_set0 _ _ _ _
theorem put_s2 {b : Nat} {pre : AHeap} {s : Nat → Int32} {A : Nat → List Int32} {post : AHeap} {v : Int32} : (put b pre s A post).set b (.object "ResponseTimeGate", (objv b s).set 24 (.int v)) = put b pre (ou s 2 v) A post := pad_set0 _ _ _ _
theorem put_s9 {b : Nat} {pre : AHeap} {s : Nat → Int32} {A : Nat → List Int32} {post : AHeap} {v : Int32} : (put b pre s A post).set b (.object "ResponseTimeGate", (objv b s).set 25 (.int v)) = put b pre (ou s 9 v) A post := pad_set0 _ _ _ _
theorem put_s10 {b : Nat} {pre : AHeap} {s : Nat → Int32} {A : Nat → List Int32} {post : AHeap} {v : Int32} : (put b pre s A post).set b (.object "ResponseTimeGate", (objv b s).set 26 (.int v)) = put b pre (ou s 10 v) A post := pad_set0 _ _ _ _
theorem put_s5 {b : Nat} {pre : AHeap} {s : Nat → Int32} {A : Nat → List Int32} {post : AHeap} {v : Int32} : (put b pre s A post).set b (.object "ResponseTimeGate", (objv b s).set 27 (.int v)) = put b pre (ou s 5 v) A post := pad_set0 _ _ _ _
theorem put_s6 {b : Nat} {pre : AHeap} {s : Nat → Int32} {A : Nat → List Int32} {post : AHeap} {v : Int32} : (put b pre s A post).set b (.object "ResponseTimeGate", (objv b s).set 28 (.int v)) = put b pre (ou s 6 v) A post := pad_set0 _ _ _ _
theorem put_s7 {b : Nat} {pre : AHeap} {s : Nat → Int32} {A : Nat → List Int32} {post : AHeap} {v : Int32} : (put b pre s A post).set b (.object "ResponseTimeGate", (objv b s).set 29 (.int v)) = put b pre (ou s 7 v) A post := pad_set0 _ _ _ _
theorem put_s8 {b : Nat} {pre : AHeap} {s : Nat → Int32} {A : Nat → List Int32} {post : AHeap} {v : Int32} : (put b pre s A post).set b (.object "ResponseTimeGate", (objv b s).set 30 (.int v)) = put b pre (ou s 8 v) A post := pad_set0 _ _ _ _
theorem put_len {b : Nat} {pre : AHeap} {s : Nat → Int32} {A : Nat → List Int32} {post : AHeap} : (put b pre s A post).length = b + 21 + post.length := by rw [put, List.length_append, pad_len]; simp only [List.length_cons]; omega
theorem inst0 : rInst tables_1 "ResponseTimeGate" = some 31 := by decide +kernel
theorem put_tot {b : Nat} {pre : AHeap} {s : Nat → Int32} {A : Nat → List Int32} {post : AHeap} : tot tables_1 (put b pre s A post) = tot tables_1 (pad b pre) + (31 + ((A 0).length + ((A 1).length + ((A 2).length + ((A 3).length + ((A 4).length + ((A 5).length + ((A 6).length + ((A 7).length + ((A 8).length + ((A 9).length + ((A 10).length + ((A 11).length + ((A 12).length + ((A 13).length + ((A 14).length + ((A 15).length + ((A 16).length + ((A 17).length + ((A 18).length + ((A 19).length + tot tables_1 post))))))))))))))))))))) := by rw [put, tot_append]; simp only [tot_cons, cost, List.length_map, inst0, Option.getD_some]
def D0 : List Value := [.null, .null, .null, .null, .null, .null, .null, .null, .null, .null, .null, .null, .null, .null, .null, .null, .null, .null, .null, .null, .int 0, .int 0, .int 0, .int 0, .int 0, .int 0, .int 0, .int 0, .int 0, .int 0, .int 0]
theorem lay0 : (olay tables_1 "ResponseTimeGate").map dflt = D0 := by decide +kernel
abbrev y0 : MethodName := ⟨"ResponseTimeGate", "<init>", "(I)V"⟩
abbrev kb0 : ByteArray := prog_1_method_1_code
def M0 (pc : Nat) (ls : List Slot) (st : List Value) (H : AHeap) (Q : Option Value → AHeap → Prop) : Prop := W tables_1 dn 0 y0 prog_1_method_1_code none pc ls st H Q
abbrev y1 : MethodName := ⟨"ResponseTimeGate", "resetSim", "()V"⟩
abbrev kb1 : ByteArray := prog_1_method_23_code
def M1 (pc : Nat) (ls : List Slot) (st : List Value) (H : AHeap) (Q : Option Value → AHeap → Prop) : Prop := W tables_1 dn 0 y1 prog_1_method_23_code none pc ls st H Q
abbrev y2 : MethodName := ⟨"ResponseTimeGate", "beginTask", "(IIII)I"⟩
abbrev kb2 : ByteArray := prog_1_method_2_code
def M2 (pc : Nat) (ls : List Slot) (st : List Value) (H : AHeap) (Q : Option Value → AHeap → Prop) : Prop := W tables_1 dn 0 y2 prog_1_method_2_code (some .int) pc ls st H Q
abbrev y3 : MethodName := ⟨"ResponseTimeGate", "priorityTaken", "(I)Z"⟩
abbrev kb3 : ByteArray := prog_1_method_3_code
def M3 (pc : Nat) (ls : List Slot) (st : List Value) (H : AHeap) (Q : Option Value → AHeap → Prop) : Prop := W tables_1 dn 0 y3 prog_1_method_3_code (some .boolean) pc ls st H Q
abbrev y4 : MethodName := ⟨"ResponseTimeGate", "addSection", "(III)I"⟩
abbrev kb4 : ByteArray := prog_1_method_4_code
def M4 (pc : Nat) (ls : List Slot) (st : List Value) (H : AHeap) (Q : Option Value → AHeap → Prop) : Prop := W tables_1 dn 0 y4 prog_1_method_4_code (some .int) pc ls st H Q
abbrev y5 : MethodName := ⟨"ResponseTimeGate", "overlapsStaged", "(II)Z"⟩
abbrev kb5 : ByteArray := prog_1_method_5_code
def M5 (pc : Nat) (ls : List Slot) (st : List Value) (H : AHeap) (Q : Option Value → AHeap → Prop) : Prop := W tables_1 dn 0 y5 prog_1_method_5_code (some .boolean) pc ls st H Q
abbrev y6 : MethodName := ⟨"ResponseTimeGate", "commitTask", "()I"⟩
abbrev kb6 : ByteArray := prog_1_method_6_code
def M6 (pc : Nat) (ls : List Slot) (st : List Value) (H : AHeap) (Q : Option Value → AHeap → Prop) : Prop := W tables_1 dn 0 y6 prog_1_method_6_code (some .int) pc ls st H Q
abbrev y7 : MethodName := ⟨"ResponseTimeGate", "lcmWith", "(II)I"⟩
abbrev kb7 : ByteArray := prog_1_method_10_code
def M7 (pc : Nat) (ls : List Slot) (st : List Value) (H : AHeap) (Q : Option Value → AHeap → Prop) : Prop := W tables_1 dn 0 y7 prog_1_method_10_code (some .int) pc ls st H Q
abbrev y8 : MethodName := ⟨"ResponseTimeGate", "gcd", "(II)I"⟩
abbrev kb8 : ByteArray := prog_1_method_9_code
def M8 (pc : Nat) (ls : List Slot) (st : List Value) (H : AHeap) (Q : Option Value → AHeap → Prop) : Prop := W tables_1 dn 0 y8 prog_1_method_9_code (some .int) pc ls st H Q
abbrev y9 : MethodName := ⟨"ResponseTimeGate", "placeStaged", "(I)V"⟩
abbrev kb9 : ByteArray := prog_1_method_7_code
def M9 (pc : Nat) (ls : List Slot) (st : List Value) (H : AHeap) (Q : Option Value → AHeap → Prop) : Prop := W tables_1 dn 0 y9 prog_1_method_7_code none pc ls st H Q
abbrev y10 : MethodName := ⟨"ResponseTimeGate", "analyze", "(I)I"⟩
abbrev kb10 : ByteArray := prog_1_method_11_code
def M10 (pc : Nat) (ls : List Slot) (st : List Value) (H : AHeap) (Q : Option Value → AHeap → Prop) : Prop := W tables_1 dn 0 y10 prog_1_method_11_code (some .int) pc ls st H Q
abbrev y11 : MethodName := ⟨"ResponseTimeGate", "computeCeilings", "(I)V"⟩
abbrev kb11 : ByteArray := prog_1_method_12_code
def M11 (pc : Nat) (ls : List Slot) (st : List Value) (H : AHeap) (Q : Option Value → AHeap → Prop) : Prop := W tables_1 dn 0 y11 prog_1_method_12_code none pc ls st H Q
abbrev y12 : MethodName := ⟨"ResponseTimeGate", "blockingOf", "(II)I"⟩
abbrev kb12 : ByteArray := prog_1_method_13_code
def M12 (pc : Nat) (ls : List Slot) (st : List Value) (H : AHeap) (Q : Option Value → AHeap → Prop) : Prop := W tables_1 dn 0 y12 prog_1_method_13_code (some .int) pc ls st H Q
abbrev y13 : MethodName := ⟨"ResponseTimeGate", "responseOf", "(III)I"⟩
abbrev kb13 : ByteArray := prog_1_method_14_code
def M13 (pc : Nat) (ls : List Slot) (st : List Value) (H : AHeap) (Q : Option Value → AHeap → Prop) : Prop := W tables_1 dn 0 y13 prog_1_method_14_code (some .int) pc ls st H Q
abbrev y14 : MethodName := ⟨"ResponseTimeGate", "interference", "(III)I"⟩
abbrev kb14 : ByteArray := prog_1_method_15_code
def M14 (pc : Nat) (ls : List Slot) (st : List Value) (H : AHeap) (Q : Option Value → AHeap → Prop) : Prop := W tables_1 dn 0 y14 prog_1_method_15_code (some .int) pc ls st H Q
abbrev y15 : MethodName := ⟨"ResponseTimeGate", "adoptResults", "(I)V"⟩
abbrev kb15 : ByteArray := prog_1_method_8_code
def M15 (pc : Nat) (ls : List Slot) (st : List Value) (H : AHeap) (Q : Option Value → AHeap → Prop) : Prop := W tables_1 dn 0 y15 prog_1_method_8_code none pc ls st H Q
abbrev y16 : MethodName := ⟨"ResponseTimeGate", "failedTask", "()I"⟩
abbrev kb16 : ByteArray := prog_1_method_22_code
def M16 (pc : Nat) (ls : List Slot) (st : List Value) (H : AHeap) (Q : Option Value → AHeap → Prop) : Prop := W tables_1 dn 0 y16 prog_1_method_22_code (some .int) pc ls st H Q
abbrev y17 : MethodName := ⟨"ResponseTimeGate", "taskCount", "()I"⟩
abbrev kb17 : ByteArray := prog_1_method_17_code
def M17 (pc : Nat) (ls : List Slot) (st : List Value) (H : AHeap) (Q : Option Value → AHeap → Prop) : Prop := W tables_1 dn 0 y17 prog_1_method_17_code (some .int) pc ls st H Q
abbrev y18 : MethodName := ⟨"ResponseTimeGate", "bound", "(I)I"⟩
abbrev kb18 : ByteArray := prog_1_method_18_code
def M18 (pc : Nat) (ls : List Slot) (st : List Value) (H : AHeap) (Q : Option Value → AHeap → Prop) : Prop := W tables_1 dn 0 y18 prog_1_method_18_code (some .int) pc ls st H Q
abbrev y19 : MethodName := ⟨"ResponseTimeGate", "admitted", "(I)Z"⟩
abbrev kb19 : ByteArray := prog_1_method_16_code
def M19 (pc : Nat) (ls : List Slot) (st : List Value) (H : AHeap) (Q : Option Value → AHeap → Prop) : Prop := W tables_1 dn 0 y19 prog_1_method_16_code (some .boolean) pc ls st H Q
abbrev y20 : MethodName := ⟨"ResponseTimeGate", "blocking", "(I)I"⟩
abbrev kb20 : ByteArray := prog_1_method_19_code
def M20 (pc : Nat) (ls : List Slot) (st : List Value) (H : AHeap) (Q : Option Value → AHeap → Prop) : Prop := W tables_1 dn 0 y20 prog_1_method_19_code (some .int) pc ls st H Q
abbrev y21 : MethodName := ⟨"ResponseTimeGate", "ceiling", "(I)I"⟩
abbrev kb21 : ByteArray := prog_1_method_20_code
def M21 (pc : Nat) (ls : List Slot) (st : List Value) (H : AHeap) (Q : Option Value → AHeap → Prop) : Prop := W tables_1 dn 0 y21 prog_1_method_20_code (some .int) pc ls st H Q
abbrev y22 : MethodName := ⟨"ResponseTimeGate", "hyperperiod", "()I"⟩
abbrev kb22 : ByteArray := prog_1_method_21_code
def M22 (pc : Nat) (ls : List Slot) (st : List Value) (H : AHeap) (Q : Option Value → AHeap → Prop) : Prop := W tables_1 dn 0 y22 prog_1_method_21_code (some .int) pc ls st H Q
abbrev y23 : MethodName := ⟨"ResponseTimeGate", "run", "(I)I"⟩
abbrev kb23 : ByteArray := prog_1_method_24_code
def M23 (pc : Nat) (ls : List Slot) (st : List Value) (H : AHeap) (Q : Option Value → AHeap → Prop) : Prop := W tables_1 dn 0 y23 prog_1_method_24_code (some .int) pc ls st H Q
abbrev y24 : MethodName := ⟨"ResponseTimeGate", "tick", "()V"⟩
abbrev kb24 : ByteArray := prog_1_method_25_code
def M24 (pc : Nat) (ls : List Slot) (st : List Value) (H : AHeap) (Q : Option Value → AHeap → Prop) : Prop := W tables_1 dn 0 y24 prog_1_method_25_code none pc ls st H Q
abbrev y25 : MethodName := ⟨"ResponseTimeGate", "releaseJobs", "()V"⟩
abbrev kb25 : ByteArray := prog_1_method_26_code
def M25 (pc : Nat) (ls : List Slot) (st : List Value) (H : AHeap) (Q : Option Value → AHeap → Prop) : Prop := W tables_1 dn 0 y25 prog_1_method_26_code none pc ls st H Q
abbrev y26 : MethodName := ⟨"ResponseTimeGate", "pickRunning", "()I"⟩
abbrev kb26 : ByteArray := prog_1_method_28_code
def M26 (pc : Nat) (ls : List Slot) (st : List Value) (H : AHeap) (Q : Option Value → AHeap → Prop) : Prop := W tables_1 dn 0 y26 prog_1_method_28_code (some .int) pc ls st H Q
abbrev y27 : MethodName := ⟨"ResponseTimeGate", "activePriority", "(I)I"⟩
abbrev kb27 : ByteArray := prog_1_method_27_code
def M27 (pc : Nat) (ls : List Slot) (st : List Value) (H : AHeap) (Q : Option Value → AHeap → Prop) : Prop := W tables_1 dn 0 y27 prog_1_method_27_code (some .int) pc ls st H Q
abbrev y28 : MethodName := ⟨"ResponseTimeGate", "executeUnit", "(I)V"⟩
abbrev kb28 : ByteArray := prog_1_method_30_code
def M28 (pc : Nat) (ls : List Slot) (st : List Value) (H : AHeap) (Q : Option Value → AHeap → Prop) : Prop := W tables_1 dn 0 y28 prog_1_method_30_code none pc ls st H Q
abbrev y29 : MethodName := ⟨"ResponseTimeGate", "takeResourceIfStart", "(I)V"⟩
abbrev kb29 : ByteArray := prog_1_method_29_code
def M29 (pc : Nat) (ls : List Slot) (st : List Value) (H : AHeap) (Q : Option Value → AHeap → Prop) : Prop := W tables_1 dn 0 y29 prog_1_method_29_code none pc ls st H Q
abbrev y30 : MethodName := ⟨"ResponseTimeGate", "completeJob", "(I)V"⟩
abbrev kb30 : ByteArray := prog_1_method_31_code
def M30 (pc : Nat) (ls : List Slot) (st : List Value) (H : AHeap) (Q : Option Value → AHeap → Prop) : Prop := W tables_1 dn 0 y30 prog_1_method_31_code none pc ls st H Q
abbrev y31 : MethodName := ⟨"ResponseTimeGate", "checkMisses", "()V"⟩
abbrev kb31 : ByteArray := prog_1_method_32_code
def M31 (pc : Nat) (ls : List Slot) (st : List Value) (H : AHeap) (Q : Option Value → AHeap → Prop) : Prop := W tables_1 dn 0 y31 prog_1_method_32_code none pc ls st H Q
abbrev y32 : MethodName := ⟨"ResponseTimeGate", "time", "()I"⟩
abbrev kb32 : ByteArray := prog_1_method_33_code
def M32 (pc : Nat) (ls : List Slot) (st : List Value) (H : AHeap) (Q : Option Value → AHeap → Prop) : Prop := W tables_1 dn 0 y32 prog_1_method_33_code (some .int) pc ls st H Q
abbrev y33 : MethodName := ⟨"ResponseTimeGate", "misses", "()I"⟩
abbrev kb33 : ByteArray := prog_1_method_36_code
def M33 (pc : Nat) (ls : List Slot) (st : List Value) (H : AHeap) (Q : Option Value → AHeap → Prop) : Prop := W tables_1 dn 0 y33 prog_1_method_36_code (some .int) pc ls st H Q
abbrev y34 : MethodName := ⟨"ResponseTimeGate", "holder", "(I)I"⟩
abbrev kb34 : ByteArray := prog_1_method_38_code
def M34 (pc : Nat) (ls : List Slot) (st : List Value) (H : AHeap) (Q : Option Value → AHeap → Prop) : Prop := W tables_1 dn 0 y34 prog_1_method_38_code (some .int) pc ls st H Q
abbrev y35 : MethodName := ⟨"ResponseTimeGate", "jobsDone", "(I)I"⟩
abbrev kb35 : ByteArray := prog_1_method_35_code
def M35 (pc : Nat) (ls : List Slot) (st : List Value) (H : AHeap) (Q : Option Value → AHeap → Prop) : Prop := W tables_1 dn 0 y35 prog_1_method_35_code (some .int) pc ls st H Q
abbrev y36 : MethodName := ⟨"ResponseTimeGate", "maxResponse", "(I)I"⟩
abbrev kb36 : ByteArray := prog_1_method_34_code
def M36 (pc : Nat) (ls : List Slot) (st : List Value) (H : AHeap) (Q : Option Value → AHeap → Prop) : Prop := W tables_1 dn 0 y36 prog_1_method_34_code (some .int) pc ls st H Q
abbrev y37 : MethodName := ⟨"ResponseTimeGateL3", "u", "(II)I"⟩
abbrev kb37 : ByteArray := method_2_code
def M37 (pc : Nat) (ls : List Slot) (st : List Value) (H : AHeap) (Q : Option Value → AHeap → Prop) : Prop := W tables_1 dn 0 y37 method_2_code (some .int) pc ls st H Q
abbrev y38 : MethodName := ⟨"ResponseTimeGateL3", "law", "(IIIIII)Z"⟩
abbrev kb38 : ByteArray := code
def M38 (pc : Nat) (ls : List Slot) (st : List Value) (H : AHeap) (Q : Option Value → AHeap → Prop) : Prop := W tables_1 dn 0 y38 code (some .boolean) pc ls st H Q
theorem dn_0 : dnOf dn y0 = some (1, 13) := by decide +kernel
theorem rc_0 : rCode tables_1 y0 = some (prog_1_method_1_code, 4, none) := rCode_of (i := 9) rfl (by decide +kernel)
theorem dn_1 : dnOf dn y1 = some (0, 0) := by decide +kernel
theorem rc_1 : rCode tables_1 y1 = some (prog_1_method_23_code, 2, none) := rCode_of (i := 68) rfl (by decide +kernel)
theorem dn_2 : dnOf dn y2 = some (1, 14) := by decide +kernel
theorem rc_2 : rCode tables_1 y2 = some (prog_1_method_2_code, 6, some .int) := rCode_of (i := 77) rfl (by decide +kernel)
theorem dn_3 : dnOf dn y3 = some (0, 0) := by decide +kernel
theorem rc_3 : rCode tables_1 y3 = some (prog_1_method_3_code, 3, some .boolean) := rCode_of (i := 81) rfl (by decide +kernel)
theorem dn_4 : dnOf dn y4 = some (1, 17) := by decide +kernel
theorem rc_4 : rCode tables_1 y4 = some (prog_1_method_4_code, 4, some .int) := rCode_of (i := 94) rfl (by decide +kernel)
theorem dn_5 : dnOf dn y5 = some (0, 0) := by decide +kernel
theorem rc_5 : rCode tables_1 y5 = some (prog_1_method_5_code, 6, some .boolean) := rCode_of (i := 98) rfl (by decide +kernel)
theorem dn_6 : dnOf dn y6 = some (3, 55) := by decide +kernel
theorem rc_6 : rCode tables_1 y6 = some (prog_1_method_6_code, 4, some .int) := rCode_of (i := 103) rfl (by decide +kernel)
theorem dn_7 : dnOf dn y7 = some (1, 18) := by decide +kernel
theorem rc_7 : rCode tables_1 y7 = some (prog_1_method_10_code, 4, some .int) := rCode_of (i := 107) rfl (by decide +kernel)
theorem dn_8 : dnOf dn y8 = some (0, 0) := by decide +kernel
theorem rc_8 : rCode tables_1 y8 = some (prog_1_method_9_code, 7, some .int) := rCode_of (i := 111) rfl (by decide +kernel)
theorem dn_9 : dnOf dn y9 = some (0, 0) := by decide +kernel
theorem rc_9 : rCode tables_1 y9 = some (prog_1_method_7_code, 3, none) := rCode_of (i := 115) rfl (by decide +kernel)
theorem dn_10 : dnOf dn y10 = some (2, 39) := by decide +kernel
theorem rc_10 : rCode tables_1 y10 = some (prog_1_method_11_code, 5, some .int) := rCode_of (i := 119) rfl (by decide +kernel)
theorem dn_11 : dnOf dn y11 = some (0, 0) := by decide +kernel
theorem rc_11 : rCode tables_1 y11 = some (prog_1_method_12_code, 5, none) := rCode_of (i := 123) rfl (by decide +kernel)
theorem dn_12 : dnOf dn y12 = some (0, 0) := by decide +kernel
theorem rc_12 : rCode tables_1 y12 = some (prog_1_method_13_code, 8, some .int) := rCode_of (i := 127) rfl (by decide +kernel)
theorem dn_13 : dnOf dn y13 = some (1, 20) := by decide +kernel
theorem rc_13 : rCode tables_1 y13 = some (prog_1_method_14_code, 8, some .int) := rCode_of (i := 131) rfl (by decide +kernel)
theorem dn_14 : dnOf dn y14 = some (0, 0) := by decide +kernel
theorem rc_14 : rCode tables_1 y14 = some (prog_1_method_15_code, 8, some .int) := rCode_of (i := 135) rfl (by decide +kernel)
theorem dn_15 : dnOf dn y15 = some (0, 0) := by decide +kernel
theorem rc_15 : rCode tables_1 y15 = some (prog_1_method_8_code, 3, none) := rCode_of (i := 139) rfl (by decide +kernel)
theorem dn_16 : dnOf dn y16 = some (0, 0) := by decide +kernel
theorem rc_16 : rCode tables_1 y16 = some (prog_1_method_22_code, 1, some .int) := rCode_of (i := 144) rfl (by decide +kernel)
theorem dn_17 : dnOf dn y17 = some (0, 0) := by decide +kernel
theorem rc_17 : rCode tables_1 y17 = some (prog_1_method_17_code, 1, some .int) := rCode_of (i := 149) rfl (by decide +kernel)
theorem dn_18 : dnOf dn y18 = some (1, 13) := by decide +kernel
theorem rc_18 : rCode tables_1 y18 = some (prog_1_method_18_code, 2, some .int) := rCode_of (i := 154) rfl (by decide +kernel)
theorem dn_19 : dnOf dn y19 = some (0, 0) := by decide +kernel
theorem rc_19 : rCode tables_1 y19 = some (prog_1_method_16_code, 2, some .boolean) := rCode_of (i := 158) rfl (by decide +kernel)
theorem dn_20 : dnOf dn y20 = some (1, 13) := by decide +kernel
theorem rc_20 : rCode tables_1 y20 = some (prog_1_method_19_code, 2, some .int) := rCode_of (i := 163) rfl (by decide +kernel)
theorem dn_21 : dnOf dn y21 = some (0, 0) := by decide +kernel
theorem rc_21 : rCode tables_1 y21 = some (prog_1_method_20_code, 2, some .int) := rCode_of (i := 168) rfl (by decide +kernel)
theorem dn_22 : dnOf dn y22 = some (0, 0) := by decide +kernel
theorem rc_22 : rCode tables_1 y22 = some (prog_1_method_21_code, 1, some .int) := rCode_of (i := 173) rfl (by decide +kernel)
theorem dn_23 : dnOf dn y23 = some (3, 45) := by decide +kernel
theorem rc_23 : rCode tables_1 y23 = some (prog_1_method_24_code, 4, some .int) := rCode_of (i := 178) rfl (by decide +kernel)
theorem dn_24 : dnOf dn y24 = some (2, 32) := by decide +kernel
theorem rc_24 : rCode tables_1 y24 = some (prog_1_method_25_code, 2, none) := rCode_of (i := 182) rfl (by decide +kernel)
theorem dn_25 : dnOf dn y25 = some (0, 0) := by decide +kernel
theorem rc_25 : rCode tables_1 y25 = some (prog_1_method_26_code, 3, none) := rCode_of (i := 186) rfl (by decide +kernel)
theorem dn_26 : dnOf dn y26 = some (1, 14) := by decide +kernel
theorem rc_26 : rCode tables_1 y26 = some (prog_1_method_28_code, 7, some .int) := rCode_of (i := 190) rfl (by decide +kernel)
theorem dn_27 : dnOf dn y27 = some (0, 0) := by decide +kernel
theorem rc_27 : rCode tables_1 y27 = some (prog_1_method_27_code, 3, some .int) := rCode_of (i := 194) rfl (by decide +kernel)
theorem dn_28 : dnOf dn y28 = some (1, 14) := by decide +kernel
theorem rc_28 : rCode tables_1 y28 = some (prog_1_method_30_code, 3, none) := rCode_of (i := 198) rfl (by decide +kernel)
theorem dn_29 : dnOf dn y29 = some (0, 0) := by decide +kernel
theorem rc_29 : rCode tables_1 y29 = some (prog_1_method_29_code, 3, none) := rCode_of (i := 202) rfl (by decide +kernel)
theorem dn_30 : dnOf dn y30 = some (0, 0) := by decide +kernel
theorem rc_30 : rCode tables_1 y30 = some (prog_1_method_31_code, 3, none) := rCode_of (i := 206) rfl (by decide +kernel)
theorem dn_31 : dnOf dn y31 = some (0, 0) := by decide +kernel
theorem rc_31 : rCode tables_1 y31 = some (prog_1_method_32_code, 2, none) := rCode_of (i := 210) rfl (by decide +kernel)
theorem dn_32 : dnOf dn y32 = some (0, 0) := by decide +kernel
theorem rc_32 : rCode tables_1 y32 = some (prog_1_method_33_code, 1, some .int) := rCode_of (i := 215) rfl (by decide +kernel)
theorem dn_33 : dnOf dn y33 = some (0, 0) := by decide +kernel
theorem rc_33 : rCode tables_1 y33 = some (prog_1_method_36_code, 1, some .int) := rCode_of (i := 220) rfl (by decide +kernel)
theorem dn_34 : dnOf dn y34 = some (0, 0) := by decide +kernel
theorem rc_34 : rCode tables_1 y34 = some (prog_1_method_38_code, 3, some .int) := rCode_of (i := 225) rfl (by decide +kernel)
theorem dn_35 : dnOf dn y35 = some (1, 13) := by decide +kernel
theorem rc_35 : rCode tables_1 y35 = some (prog_1_method_35_code, 2, some .int) := rCode_of (i := 230) rfl (by decide +kernel)
theorem dn_36 : dnOf dn y36 = some (1, 13) := by decide +kernel
theorem rc_36 : rCode tables_1 y36 = some (prog_1_method_34_code, 2, some .int) := rCode_of (i := 235) rfl (by decide +kernel)
theorem dn_37 : dnOf dn y37 = some (0, 0) := by decide +kernel
theorem rc_37 : rCode tables_1 y37 = some (method_2_code, 3, some .int) := rCode_of (i := 3) rfl (by decide +kernel)
theorem dn_38 : dnOf dn y38 = some (4, 70) := by decide +kernel
theorem gf_7 : gfR tables_1 "ResponseTimeGate" 7 = some ("ResponseTimeGate", 0) := by decide +kernel
theorem gf_13 : gfR tables_1 "ResponseTimeGate" 13 = some ("ResponseTimeGate", 1) := by decide +kernel
theorem gf_16 : gfR tables_1 "ResponseTimeGate" 16 = some ("ResponseTimeGate", 2) := by decide +kernel
theorem gf_19 : gfR tables_1 "ResponseTimeGate" 19 = some ("ResponseTimeGate", 3) := by decide +kernel
theorem gf_22 : gfR tables_1 "ResponseTimeGate" 22 = some ("ResponseTimeGate", 4) := by decide +kernel
theorem gf_25 : gfR tables_1 "ResponseTimeGate" 25 = some ("ResponseTimeGate", 5) := by decide +kernel
theorem gf_28 : gfR tables_1 "ResponseTimeGate" 28 = some ("ResponseTimeGate", 6) := by decide +kernel
theorem gf_31 : gfR tables_1 "ResponseTimeGate" 31 = some ("ResponseTimeGate", 7) := by decide +kernel
theorem gf_34 : gfR tables_1 "ResponseTimeGate" 34 = some ("ResponseTimeGate", 8) := by decide +kernel
theorem gf_37 : gfR tables_1 "ResponseTimeGate" 37 = some ("ResponseTimeGate", 9) := by decide +kernel
theorem gf_40 : gfR tables_1 "ResponseTimeGate" 40 = some ("ResponseTimeGate", 10) := by decide +kernel
theorem gf_43 : gfR tables_1 "ResponseTimeGate" 43 = some ("ResponseTimeGate", 11) := by decide +kernel
theorem gf_46 : gfR tables_1 "ResponseTimeGate" 46 = some ("ResponseTimeGate", 12) := by decide +kernel
theorem gf_49 : gfR tables_1 "ResponseTimeGate" 49 = some ("ResponseTimeGate", 13) := by decide +kernel
theorem gf_52 : gfR tables_1 "ResponseTimeGate" 52 = some ("ResponseTimeGate", 14) := by decide +kernel
theorem gf_56 : gfR tables_1 "ResponseTimeGate" 56 = some ("ResponseTimeGate", 15) := by decide +kernel
theorem gf_59 : gfR tables_1 "ResponseTimeGate" 59 = some ("ResponseTimeGate", 16) := by decide +kernel
theorem gf_62 : gfR tables_1 "ResponseTimeGate" 62 = some ("ResponseTimeGate", 17) := by decide +kernel
theorem gf_65 : gfR tables_1 "ResponseTimeGate" 65 = some ("ResponseTimeGate", 18) := by decide +kernel
theorem gf_68 : gfR tables_1 "ResponseTimeGate" 68 = some ("ResponseTimeGate", 19) := by decide +kernel
theorem gf_71 : gfR tables_1 "ResponseTimeGate" 71 = some ("ResponseTimeGate", 20) := by decide +kernel
theorem gf_75 : gfR tables_1 "ResponseTimeGate" 75 = some ("ResponseTimeGate", 21) := by decide +kernel
theorem gf_78 : gfR tables_1 "ResponseTimeGate" 78 = some ("ResponseTimeGate", 22) := by decide +kernel
theorem gf_82 : gfR tables_1 "ResponseTimeGate" 82 = some ("ResponseTimeGate", 23) := by decide +kernel
theorem gf_85 : gfR tables_1 "ResponseTimeGate" 85 = some ("ResponseTimeGate", 24) := by decide +kernel
theorem gf_95 : gfR tables_1 "ResponseTimeGate" 95 = some ("ResponseTimeGate", 27) := by decide +kernel
theorem gf_98 : gfR tables_1 "ResponseTimeGate" 98 = some ("ResponseTimeGate", 28) := by decide +kernel
theorem gf_101 : gfR tables_1 "ResponseTimeGate" 101 = some ("ResponseTimeGate", 29) := by decide +kernel
theorem gf_104 : gfR tables_1 "ResponseTimeGate" 104 = some ("ResponseTimeGate", 30) := by decide +kernel
theorem gf_145 : gfR tables_1 "ResponseTimeGate" 145 = some ("ResponseTimeGate", 25) := by decide +kernel
theorem gf_148 : gfR tables_1 "ResponseTimeGate" 148 = some ("ResponseTimeGate", 26) := by decide +kernel
section Rules
variable {b r q : Nat} {pre : AHeap} {s : Nat → Int32} {A : Nat → List Int32} {post : AHeap} {ls : List Slot} {st : List Value} {H R : AHeap} {Q : Option Value → AHeap → Prop} {x y v z j : Int32} {J1 J2 : Int64} {sc : List Int32} {l0 l1 l2 l3 l4 l5 l6 l7 l8 l9 l10 l11 l12 l13 l14 l15 : Slot}
theorem m0_0 : M0 0 [.val (.ref r), l1, l2, l3] st H Q = M0 1 [.val (.ref r), l1, l2, l3] (.ref r :: st) H Q := w_x (show decode kb0 0 = .ok (.aload_n 0, 1) from by decide +kernel) rfl
theorem m0_1 : M0 1 ls [.ref r] H Q = M0 4 ls [] H Q := w_obj (show decode kb0 1 = .ok (.invokespecial 1, 3) from by decide +kernel) (sl := 1) (by decide +kernel) (by decide)
theorem m0_4 : M0 4 [.val (.ref r), l1, l2, l3] st H Q = M0 5 [.val (.ref r), l1, l2, l3] (.ref r :: st) H Q := w_x (show decode kb0 4 = .ok (.aload_n 0, 1) from by decide +kernel) rfl
theorem m0_5 : M0 5 ls st H Q = M0 7 ls (.int 9 :: st) H Q := w_con (show decode kb0 5 = .ok (.bipush 9, 2) from by decide +kernel) rfl (by decide)
theorem m0_12 : M0 12 [.val (.ref r), l1, l2, l3] st H Q = M0 13 [.val (.ref r), l1, l2, l3] (.ref r :: st) H Q := w_x (show decode kb0 12 = .ok (.aload_n 0, 1) from by decide +kernel) rfl
theorem m0_13 : M0 13 ls st H Q = M0 15 ls (.int 9 :: st) H Q := w_con (show decode kb0 13 = .ok (.bipush 9, 2) from by decide +kernel) rfl (by decide)
theorem m0_20 : M0 20 [.val (.ref r), l1, l2, l3] st H Q = M0 21 [.val (.ref r), l1, l2, l3] (.ref r :: st) H Q := w_x (show decode kb0 20 = .ok (.aload_n 0, 1) from by decide +kernel) rfl
theorem m0_21 : M0 21 ls st H Q = M0 23 ls (.int 9 :: st) H Q := w_con (show decode kb0 21 = .ok (.bipush 9, 2) from by decide +kernel) rfl (by decide)
theorem m0_28 : M0 28 [.val (.ref r), l1, l2, l3] st H Q = M0 29 [.val (.ref r), l1, l2, l3] (.ref r :: st) H Q := w_x (show decode kb0 28 = .ok (.aload_n 0, 1) from by decide +kernel) rfl
theorem m0_29 : M0 29 ls st H Q = M0 31 ls (.int 9 :: st) H Q := w_con (show decode kb0 29 = .ok (.bipush 9, 2) from by decide +kernel) rfl (by decide)
theorem m0_36 : M0 36 [.val (.ref r), l1, l2, l3] st H Q = M0 37 [.val (.ref r), l1, l2, l3] (.ref r :: st) H Q := w_x (show decode kb0 36 = .ok (.aload_n 0, 1) from by decide +kernel) rfl
theorem m0_37 : M0 37 ls st H Q = M0 39 ls (.int 36 :: st) H Q := w_con (show decode kb0 37 = .ok (.bipush 36, 2) from by decide +kernel) rfl (by decide)
theorem m0_44 : M0 44 [.val (.ref r), l1, l2, l3] st H Q = M0 45 [.val (.ref r), l1, l2, l3] (.ref r :: st) H Q := w_x (show decode kb0 44 = .ok (.aload_n 0, 1) from by decide +kernel) rfl
theorem m0_45 : M0 45 ls st H Q = M0 47 ls (.int 36 :: st) H Q := w_con (show decode kb0 45 = .ok (.bipush 36, 2) from by decide +kernel) rfl (by decide)
theorem m0_52 : M0 52 [.val (.ref r), l1, l2, l3] st H Q = M0 53 [.val (.ref r), l1, l2, l3] (.ref r :: st) H Q := w_x (show decode kb0 52 = .ok (.aload_n 0, 1) from by decide +kernel) rfl
theorem m0_53 : M0 53 ls st H Q = M0 55 ls (.int 9 :: st) H Q := w_con (show decode kb0 53 = .ok (.bipush 9, 2) from by decide +kernel) rfl (by decide)
theorem m0_60 : M0 60 [.val (.ref r), l1, l2, l3] st H Q = M0 61 [.val (.ref r), l1, l2, l3] (.ref r :: st) H Q := w_x (show decode kb0 60 = .ok (.aload_n 0, 1) from by decide +kernel) rfl
theorem m0_61 : M0 61 ls st H Q = M0 63 ls (.int 9 :: st) H Q := w_con (show decode kb0 61 = .ok (.bipush 9, 2) from by decide +kernel) rfl (by decide)
theorem m0_68 : M0 68 [.val (.ref r), l1, l2, l3] st H Q = M0 69 [.val (.ref r), l1, l2, l3] (.ref r :: st) H Q := w_x (show decode kb0 68 = .ok (.aload_n 0, 1) from by decide +kernel) rfl
theorem m0_69 : M0 69 ls st H Q = M0 70 ls (.int 4 :: st) H Q := w_con (show decode kb0 69 = .ok (.iconst 4, 1) from by decide +kernel) rfl (by decide)
theorem m0_75 : M0 75 [.val (.ref r), l1, l2, l3] st H Q = M0 76 [.val (.ref r), l1, l2, l3] (.ref r :: st) H Q := w_x (show decode kb0 75 = .ok (.aload_n 0, 1) from by decide +kernel) rfl
theorem m0_76 : M0 76 ls st H Q = M0 77 ls (.int 4 :: st) H Q := w_con (show decode kb0 76 = .ok (.iconst 4, 1) from by decide +kernel) rfl (by decide)
theorem m0_82 : M0 82 [.val (.ref r), l1, l2, l3] st H Q = M0 83 [.val (.ref r), l1, l2, l3] (.ref r :: st) H Q := w_x (show decode kb0 82 = .ok (.aload_n 0, 1) from by decide +kernel) rfl
theorem m0_83 : M0 83 ls st H Q = M0 84 ls (.int 4 :: st) H Q := w_con (show decode kb0 83 = .ok (.iconst 4, 1) from by decide +kernel) rfl (by decide)
theorem m0_89 : M0 89 [.val (.ref r), l1, l2, l3] st H Q = M0 90 [.val (.ref r), l1, l2, l3] (.ref r :: st) H Q := w_x (show decode kb0 89 = .ok (.aload_n 0, 1) from by decide +kernel) rfl
theorem m0_90 : M0 90 ls st H Q = M0 91 ls (.int 4 :: st) H Q := w_con (show decode kb0 90 = .ok (.iconst 4, 1) from by decide +kernel) rfl (by decide)
theorem m0_96 : M0 96 [.val (.ref r), l1, l2, l3] st H Q = M0 97 [.val (.ref r), l1, l2, l3] (.ref r :: st) H Q := w_x (show decode kb0 96 = .ok (.aload_n 0, 1) from by decide +kernel) rfl
theorem m0_97 : M0 97 ls st H Q = M0 99 ls (.int 9 :: st) H Q := w_con (show decode kb0 97 = .ok (.bipush 9, 2) from by decide +kernel) rfl (by decide)
theorem m0_104 : M0 104 [.val (.ref r), l1, l2, l3] st H Q = M0 105 [.val (.ref r), l1, l2, l3] (.ref r :: st) H Q := w_x (show decode kb0 104 = .ok (.aload_n 0, 1) from by decide +kernel) rfl
theorem m0_105 : M0 105 ls st H Q = M0 107 ls (.int 9 :: st) H Q := w_con (show decode kb0 105 = .ok (.bipush 9, 2) from by decide +kernel) rfl (by decide)
theorem m0_112 : M0 112 [.val (.ref r), l1, l2, l3] st H Q = M0 113 [.val (.ref r), l1, l2, l3] (.ref r :: st) H Q := w_x (show decode kb0 112 = .ok (.aload_n 0, 1) from by decide +kernel) rfl
theorem m0_113 : M0 113 ls st H Q = M0 115 ls (.int 9 :: st) H Q := w_con (show decode kb0 113 = .ok (.bipush 9, 2) from by decide +kernel) rfl (by decide)
theorem m0_120 : M0 120 [.val (.ref r), l1, l2, l3] st H Q = M0 121 [.val (.ref r), l1, l2, l3] (.ref r :: st) H Q := w_x (show decode kb0 120 = .ok (.aload_n 0, 1) from by decide +kernel) rfl
theorem m0_121 : M0 121 ls st H Q = M0 123 ls (.int 9 :: st) H Q := w_con (show decode kb0 121 = .ok (.bipush 9, 2) from by decide +kernel) rfl (by decide)
theorem m0_128 : M0 128 [.val (.ref r), l1, l2, l3] st H Q = M0 129 [.val (.ref r), l1, l2, l3] (.ref r :: st) H Q := w_x (show decode kb0 128 = .ok (.aload_n 0, 1) from by decide +kernel) rfl
theorem m0_129 : M0 129 ls st H Q = M0 131 ls (.int 9 :: st) H Q := w_con (show decode kb0 129 = .ok (.bipush 9, 2) from by decide +kernel) rfl (by decide)
theorem m0_136 : M0 136 [.val (.ref r), l1, l2, l3] st H Q = M0 137 [.val (.ref r), l1, l2, l3] (.ref r :: st) H Q := w_x (show decode kb0 136 = .ok (.aload_n 0, 1) from by decide +kernel) rfl
theorem m0_137 : M0 137 ls st H Q = M0 139 ls (.int 9 :: st) H Q := w_con (show decode kb0 137 = .ok (.bipush 9, 2) from by decide +kernel) rfl (by decide)
theorem m0_144 : M0 144 [.val (.ref r), l1, l2, l3] st H Q = M0 145 [.val (.ref r), l1, l2, l3] (.ref r :: st) H Q := w_x (show decode kb0 144 = .ok (.aload_n 0, 1) from by decide +kernel) rfl
theorem m0_145 : M0 145 ls st H Q = M0 147 ls (.int 9 :: st) H Q := w_con (show decode kb0 145 = .ok (.bipush 9, 2) from by decide +kernel) rfl (by decide)
theorem m0_152 : M0 152 [.val (.ref r), l1, l2, l3] st H Q = M0 153 [.val (.ref r), l1, l2, l3] (.ref r :: st) H Q := w_x (show decode kb0 152 = .ok (.aload_n 0, 1) from by decide +kernel) rfl
theorem m0_153 : M0 153 ls st H Q = M0 155 ls (.int 9 :: st) H Q := w_con (show decode kb0 153 = .ok (.bipush 9, 2) from by decide +kernel) rfl (by decide)
theorem m0_160 : M0 160 [l0, .val (.int v), l2, l3] st H Q = M0 161 [l0, .val (.int v), l2, l3] (.int v :: st) H Q := w_x (show decode kb0 160 = .ok (.iload_n 1, 1) from by decide +kernel) rfl
theorem m0_161u : M0 161 [l0, l1, .unset, l3] ((.int v) :: st) H Q = M0 162 [l0, l1, .val (.int v), l3] st H Q := w_st (i := 2) (p := isI) (show decode kb0 161 = .ok (.istore_n 2, 1) from by decide +kernel) rfl rfl rfl rfl rfl rfl
theorem m0_162 : M0 162 [l0, l1, .val (.int v), l3] st H Q = M0 163 [l0, l1, .val (.int v), l3] (.int v :: st) H Q := w_x (show decode kb0 162 = .ok (.iload_n 2, 1) from by decide +kernel) rfl
theorem m0_163 : M0 163 ls st H Q = M0 164 ls (.int 1 :: st) H Q := w_con (show decode kb0 163 = .ok (.iconst 1, 1) from by decide +kernel) rfl (by decide)
theorem m0_164 : M0 164 ls (.int y :: .int x :: st) H Q = if x < y then M0 167 ls st H Q else M0 169 ls st H Q := w_icmpN (show decode kb0 164 = .ok (.if_icmp .ge 5, 3) from by decide +kernel) (i_ge x y) rfl
theorem m0_167 : M0 167 ls st H Q = M0 168 ls (.int 1 :: st) H Q := w_con (show decode kb0 167 = .ok (.iconst 1, 1) from by decide +kernel) rfl (by decide)
theorem m0_168i : M0 168 [l0, l1, .val (.int z), l3] ((.int v) :: st) H Q = M0 169 [l0, l1, .val (.int v), l3] st H Q := w_st (i := 2) (p := isI) (show decode kb0 168 = .ok (.istore_n 2, 1) from by decide +kernel) rfl rfl rfl rfl rfl rfl
theorem m0_169 : M0 169 [l0, l1, .val (.int v), l3] st H Q = M0 170 [l0, l1, .val (.int v), l3] (.int v :: st) H Q := w_x (show decode kb0 169 = .ok (.iload_n 2, 1) from by decide +kernel) rfl
theorem m0_170 : M0 170 ls st H Q = M0 172 ls (.int 8 :: st) H Q := w_con (show decode kb0 170 = .ok (.bipush 8, 2) from by decide +kernel) rfl (by decide)
theorem m0_172 : M0 172 ls (.int y :: .int x :: st) H Q = if y < x then M0 175 ls st H Q else M0 178 ls st H Q := w_icmpN (show decode kb0 172 = .ok (.if_icmp .le 6, 3) from by decide +kernel) (i_le x y) rfl
theorem m0_175 : M0 175 ls st H Q = M0 177 ls (.int 8 :: st) H Q := w_con (show decode kb0 175 = .ok (.bipush 8, 2) from by decide +kernel) rfl (by decide)
theorem m0_177i : M0 177 [l0, l1, .val (.int z), l3] ((.int v) :: st) H Q = M0 178 [l0, l1, .val (.int v), l3] st H Q := w_st (i := 2) (p := isI) (show decode kb0 177 = .ok (.istore_n 2, 1) from by decide +kernel) rfl rfl rfl rfl rfl rfl
theorem m0_178 : M0 178 [.val (.ref r), l1, l2, l3] st H Q = M0 179 [.val (.ref r), l1, l2, l3] (.ref r :: st) H Q := w_x (show decode kb0 178 = .ok (.aload_n 0, 1) from by decide +kernel) rfl
theorem m0_179 : M0 179 [l0, l1, .val (.int v), l3] st H Q = M0 180 [l0, l1, .val (.int v), l3] (.int v :: st) H Q := w_x (show decode kb0 179 = .ok (.iload_n 2, 1) from by decide +kernel) rfl
theorem pf0_71 : pfR tables_1 y0.cls y0.name 71 = some ("ResponseTimeGate", 20, .int) := by decide +kernel
theorem m0_180 : M0 180 ls (.int v :: .ref b :: st) (put b pre s A post) Q = M0 183 ls st (put b pre (ou s 0 v) A post) Q := w_put (show decode kb0 180 = .ok (.putfield 71, 3) from by decide +kernel) pf0_71 put_o (Nat.zero_le _) (by show 20 < 31; omega) rfl put_s0
theorem m0_183 : M0 183 [.val (.ref r), l1, l2, l3] st H Q = M0 184 [.val (.ref r), l1, l2, l3] (.ref r :: st) H Q := w_x (show decode kb0 183 = .ok (.aload_n 0, 1) from by decide +kernel) rfl
theorem m0_184 : M0 184 ls st H Q = M0 185 ls (.int 0 :: st) H Q := w_con (show decode kb0 184 = .ok (.iconst 0, 1) from by decide +kernel) rfl (by decide)
theorem pf0_75 : pfR tables_1 y0.cls y0.name 75 = some ("ResponseTimeGate", 21, .int) := by decide +kernel
theorem m0_185 : M0 185 ls (.int v :: .ref b :: st) (put b pre s A post) Q = M0 188 ls st (put b pre (ou s 1 v) A post) Q := w_put (show decode kb0 185 = .ok (.putfield 75, 3) from by decide +kernel) pf0_75 put_o (Nat.zero_le _) (by show 21 < 31; omega) rfl put_s1
theorem m0_188 : M0 188 [.val (.ref r), l1, l2, l3] st H Q = M0 189 [.val (.ref r), l1, l2, l3] (.ref r :: st) H Q := w_x (show decode kb0 188 = .ok (.aload_n 0, 1) from by decide +kernel) rfl
theorem m0_189 : M0 189 ls st H Q = M0 190 ls (.int 0 :: st) H Q := w_con (show decode kb0 189 = .ok (.iconst 0, 1) from by decide +kernel) rfl (by decide)
theorem pf0_78 : pfR tables_1 y0.cls y0.name 78 = some ("ResponseTimeGate", 22, .boolean) := by decide +kernel
theorem m0_190 : M0 190 ls (.int v :: .ref b :: st) (put b pre s A post) Q = M0 193 ls st (put b pre (ou s 4 (nar .boolean v)) A post) Q := w_put (show decode kb0 190 = .ok (.putfield 78, 3) from by decide +kernel) pf0_78 put_o (Nat.zero_le _) (by show 22 < 31; omega) rfl put_s4
theorem m0_193 : M0 193 [.val (.ref r), l1, l2, l3] st H Q = M0 194 [.val (.ref r), l1, l2, l3] (.ref r :: st) H Q := w_x (show decode kb0 193 = .ok (.aload_n 0, 1) from by decide +kernel) rfl
theorem m0_194 : M0 194 ls st H Q = M0 195 ls (.int (-1) :: st) H Q := w_con (show decode kb0 194 = .ok (.iconst (-1), 1) from by decide +kernel) rfl (by decide)
theorem pf0_82 : pfR tables_1 y0.cls y0.name 82 = some ("ResponseTimeGate", 23, .int) := by decide +kernel
theorem m0_195 : M0 195 ls (.int v :: .ref b :: st) (put b pre s A post) Q = M0 198 ls st (put b pre (ou s 3 v) A post) Q := w_put (show decode kb0 195 = .ok (.putfield 82, 3) from by decide +kernel) pf0_82 put_o (Nat.zero_le _) (by show 23 < 31; omega) rfl put_s3
theorem m0_198 : M0 198 [.val (.ref r), l1, l2, l3] st H Q = M0 199 [.val (.ref r), l1, l2, l3] (.ref r :: st) H Q := w_x (show decode kb0 198 = .ok (.aload_n 0, 1) from by decide +kernel) rfl
theorem m0_199 : M0 199 ls st H Q = M0 200 ls (.int 1 :: st) H Q := w_con (show decode kb0 199 = .ok (.iconst 1, 1) from by decide +kernel) rfl (by decide)
theorem pf0_85 : pfR tables_1 y0.cls y0.name 85 = some ("ResponseTimeGate", 24, .int) := by decide +kernel
theorem m0_200 : M0 200 ls (.int v :: .ref b :: st) (put b pre s A post) Q = M0 203 ls st (put b pre (ou s 2 v) A post) Q := w_put (show decode kb0 200 = .ok (.putfield 85, 3) from by decide +kernel) pf0_85 put_o (Nat.zero_le _) (by show 24 < 31; omega) rfl put_s2
theorem m0_203 : M0 203 ls st H Q = M0 204 ls (.int 0 :: st) H Q := w_con (show decode kb0 203 = .ok (.iconst 0, 1) from by decide +kernel) rfl (by decide)
theorem m0_204u : M0 204 [l0, l1, l2, .unset] ((.int v) :: st) H Q = M0 205 [l0, l1, l2, .val (.int v)] st H Q := w_st (i := 3) (p := isI) (show decode kb0 204 = .ok (.istore_n 3, 1) from by decide +kernel) rfl rfl rfl rfl rfl rfl
theorem m0_205 : M0 205 [l0, l1, l2, .val (.int v)] st H Q = M0 206 [l0, l1, l2, .val (.int v)] (.int v :: st) H Q := w_x (show decode kb0 205 = .ok (.iload_n 3, 1) from by decide +kernel) rfl
theorem m0_206 : M0 206 ls st H Q = M0 207 ls (.int 4 :: st) H Q := w_con (show decode kb0 206 = .ok (.iconst 4, 1) from by decide +kernel) rfl (by decide)
theorem m0_207 : M0 207 ls (.int y :: .int x :: st) H Q = if x < y then M0 210 ls st H Q else M0 223 ls st H Q := w_icmpN (show decode kb0 207 = .ok (.if_icmp .ge 16, 3) from by decide +kernel) (i_ge x y) rfl
theorem m0_210 : M0 210 [.val (.ref r), l1, l2, l3] st H Q = M0 211 [.val (.ref r), l1, l2, l3] (.ref r :: st) H Q := w_x (show decode kb0 210 = .ok (.aload_n 0, 1) from by decide +kernel) rfl
theorem m0_211 : M0 211 ls (.ref b :: st) (put b pre s A post) Q = M0 214 ls (.ref (b + 9) :: st) (put b pre s A post) Q := w_get (show decode kb0 211 = .ok (.getfield 34, 3) from by decide +kernel) gf_34 put_o rfl
theorem m0_214 : M0 214 [l0, l1, l2, .val (.int v)] st H Q = M0 215 [l0, l1, l2, .val (.int v)] (.int v :: st) H Q := w_x (show decode kb0 214 = .ok (.iload_n 3, 1) from by decide +kernel) rfl
theorem m0_215 : M0 215 ls st H Q = M0 216 ls (.int 0 :: st) H Q := w_con (show decode kb0 215 = .ok (.iconst 0, 1) from by decide +kernel) rfl (by decide)
theorem m0_216  : M0 216 ls (.int v :: .int j :: .ref (b + 9) :: st) (put b pre s A post) Q = (inB j (A 8) ∧ M0 217 ls st (put b pre s (ou A 8 (setA (A 8) j v)) post) Q) := w_ist (show decode kb0 216 = .ok (.iastore, 1) from by decide +kernel) rfl put_a8 (Nat.zero_le _) rfl put_w8
theorem m0_217 : M0 217 [l0, l1, l2, .val (.int v)] st H Q = M0 220 [l0, l1, l2, .val (.int (v + 1))] st H Q := w_iinc (show decode kb0 217 = .ok (.iinc 3 1, 3) from by decide +kernel) rfl (by decide) rfl
theorem m0_220 : M0 220 ls st H Q = M0 205 ls st H Q := w_x (show decode kb0 220 = .ok (.goto (-15), 3) from by decide +kernel) rfl
theorem m0_223 : M0 223 [.val (.ref r), l1, l2, l3] st H Q = M0 224 [.val (.ref r), l1, l2, l3] (.ref r :: st) H Q := w_x (show decode kb0 223 = .ok (.aload_n 0, 1) from by decide +kernel) rfl
theorem cr0_88 : vR tables_1 dn y0 88 = some (true, y1, prog_1_method_23_code, 2, none, 0, 0) := pR_of (cR_of (by decide +kernel) rc_1 dn_1 dn_0 (sig := ⟨[], none⟩) (by decide +kernel) (by decide +kernel) rfl rfl) (by decide +kernel) (by decide +kernel)
theorem m0_224 : M0 224 ls [.ref b] (put b pre s A post) Q = M1 0 [.val (.ref b), .unset] [] (put b pre s A post) (fun v H1 => M0 227 ls (v.toList ++ []) H1 Q) := w_virt (as := []) (rest := []) (a := b) (show decode kb0 224 = .ok (.invokevirtual 88, 3) from by decide +kernel) cr0_88 put_o rfl rfl (Nat.le_of_ble_eq_true rfl) (by show 1 ≤ 2; omega) rfl
theorem m0_227 : M0 227 ls [] H Q = Q none H := w_vret (show decode kb0 227 = .ok (.return_, 1) from by decide +kernel) rfl
theorem m1_0 : M1 0 [.val (.ref r), l1] st H Q = M1 1 [.val (.ref r), l1] (.ref r :: st) H Q := w_x (show decode kb1 0 = .ok (.aload_n 0, 1) from by decide +kernel) rfl
theorem m1_1 : M1 1 ls st H Q = M1 2 ls (.int 0 :: st) H Q := w_con (show decode kb1 1 = .ok (.iconst 0, 1) from by decide +kernel) rfl (by decide)
theorem pf1_145 : pfR tables_1 y1.cls y1.name 145 = some ("ResponseTimeGate", 25, .int) := by decide +kernel
theorem m1_2 : M1 2 ls (.int v :: .ref b :: st) (put b pre s A post) Q = M1 5 ls st (put b pre (ou s 9 v) A post) Q := w_put (show decode kb1 2 = .ok (.putfield 145, 3) from by decide +kernel) pf1_145 put_o (Nat.zero_le _) (by show 25 < 31; omega) rfl put_s9
theorem m1_5 : M1 5 [.val (.ref r), l1] st H Q = M1 6 [.val (.ref r), l1] (.ref r :: st) H Q := w_x (show decode kb1 5 = .ok (.aload_n 0, 1) from by decide +kernel) rfl
theorem m1_6 : M1 6 ls st H Q = M1 7 ls (.int 0 :: st) H Q := w_con (show decode kb1 6 = .ok (.iconst 0, 1) from by decide +kernel) rfl (by decide)
theorem pf1_148 : pfR tables_1 y1.cls y1.name 148 = some ("ResponseTimeGate", 26, .int) := by decide +kernel
theorem m1_7 : M1 7 ls (.int v :: .ref b :: st) (put b pre s A post) Q = M1 10 ls st (put b pre (ou s 10 v) A post) Q := w_put (show decode kb1 7 = .ok (.putfield 148, 3) from by decide +kernel) pf1_148 put_o (Nat.zero_le _) (by show 26 < 31; omega) rfl put_s10
theorem m1_10 : M1 10 ls st H Q = M1 11 ls (.int 0 :: st) H Q := w_con (show decode kb1 10 = .ok (.iconst 0, 1) from by decide +kernel) rfl (by decide)
theorem m1_11u : M1 11 [l0, .unset] ((.int v) :: st) H Q = M1 12 [l0, .val (.int v)] st H Q := w_st (i := 1) (p := isI) (show decode kb1 11 = .ok (.istore_n 1, 1) from by decide +kernel) rfl rfl rfl rfl rfl rfl
theorem m1_12 : M1 12 [l0, .val (.int v)] st H Q = M1 13 [l0, .val (.int v)] (.int v :: st) H Q := w_x (show decode kb1 12 = .ok (.iload_n 1, 1) from by decide +kernel) rfl
theorem m1_13 : M1 13 ls st H Q = M1 15 ls (.int 9 :: st) H Q := w_con (show decode kb1 13 = .ok (.bipush 9, 2) from by decide +kernel) rfl (by decide)
theorem m1_15 : M1 15 ls (.int y :: .int x :: st) H Q = if x < y then M1 18 ls st H Q else M1 66 ls st H Q := w_icmpN (show decode kb1 15 = .ok (.if_icmp .ge 51, 3) from by decide +kernel) (i_ge x y) rfl
theorem m1_18 : M1 18 [.val (.ref r), l1] st H Q = M1 19 [.val (.ref r), l1] (.ref r :: st) H Q := w_x (show decode kb1 18 = .ok (.aload_n 0, 1) from by decide +kernel) rfl
theorem m1_19 : M1 19 ls (.ref b :: st) (put b pre s A post) Q = M1 22 ls (.ref (b + 15) :: st) (put b pre s A post) Q := w_get (show decode kb1 19 = .ok (.getfield 52, 3) from by decide +kernel) gf_52 put_o rfl
theorem m1_22 : M1 22 [l0, .val (.int v)] st H Q = M1 23 [l0, .val (.int v)] (.int v :: st) H Q := w_x (show decode kb1 22 = .ok (.iload_n 1, 1) from by decide +kernel) rfl
theorem m1_23 : M1 23 ls st H Q = M1 24 ls (.int 0 :: st) H Q := w_con (show decode kb1 23 = .ok (.iconst 0, 1) from by decide +kernel) rfl (by decide)
theorem m1_24  : M1 24 ls (.int v :: .int j :: .ref (b + 15) :: st) (put b pre s A post) Q = (inB j (A 14) ∧ M1 25 ls st (put b pre s (ou A 14 (setA (A 14) j (nar .boolean v))) post) Q) := w_ist (show decode kb1 24 = .ok (.bastore, 1) from by decide +kernel) rfl put_a14 (Nat.zero_le _) rfl put_w14
theorem m1_25 : M1 25 [.val (.ref r), l1] st H Q = M1 26 [.val (.ref r), l1] (.ref r :: st) H Q := w_x (show decode kb1 25 = .ok (.aload_n 0, 1) from by decide +kernel) rfl
theorem m1_26 : M1 26 ls (.ref b :: st) (put b pre s A post) Q = M1 29 ls (.ref (b + 16) :: st) (put b pre s A post) Q := w_get (show decode kb1 26 = .ok (.getfield 56, 3) from by decide +kernel) gf_56 put_o rfl
theorem m1_29 : M1 29 [l0, .val (.int v)] st H Q = M1 30 [l0, .val (.int v)] (.int v :: st) H Q := w_x (show decode kb1 29 = .ok (.iload_n 1, 1) from by decide +kernel) rfl
theorem m1_30 : M1 30 ls st H Q = M1 31 ls (.int 0 :: st) H Q := w_con (show decode kb1 30 = .ok (.iconst 0, 1) from by decide +kernel) rfl (by decide)
theorem m1_31  : M1 31 ls (.int v :: .int j :: .ref (b + 16) :: st) (put b pre s A post) Q = (inB j (A 15) ∧ M1 32 ls st (put b pre s (ou A 15 (setA (A 15) j v)) post) Q) := w_ist (show decode kb1 31 = .ok (.iastore, 1) from by decide +kernel) rfl put_a15 (Nat.zero_le _) rfl put_w15
theorem m1_32 : M1 32 [.val (.ref r), l1] st H Q = M1 33 [.val (.ref r), l1] (.ref r :: st) H Q := w_x (show decode kb1 32 = .ok (.aload_n 0, 1) from by decide +kernel) rfl
theorem m1_33 : M1 33 ls (.ref b :: st) (put b pre s A post) Q = M1 36 ls (.ref (b + 17) :: st) (put b pre s A post) Q := w_get (show decode kb1 33 = .ok (.getfield 59, 3) from by decide +kernel) gf_59 put_o rfl
theorem m1_36 : M1 36 [l0, .val (.int v)] st H Q = M1 37 [l0, .val (.int v)] (.int v :: st) H Q := w_x (show decode kb1 36 = .ok (.iload_n 1, 1) from by decide +kernel) rfl
theorem m1_37 : M1 37 ls st H Q = M1 38 ls (.int 0 :: st) H Q := w_con (show decode kb1 37 = .ok (.iconst 0, 1) from by decide +kernel) rfl (by decide)
theorem m1_38  : M1 38 ls (.int v :: .int j :: .ref (b + 17) :: st) (put b pre s A post) Q = (inB j (A 16) ∧ M1 39 ls st (put b pre s (ou A 16 (setA (A 16) j v)) post) Q) := w_ist (show decode kb1 38 = .ok (.iastore, 1) from by decide +kernel) rfl put_a16 (Nat.zero_le _) rfl put_w16
theorem m1_39 : M1 39 [.val (.ref r), l1] st H Q = M1 40 [.val (.ref r), l1] (.ref r :: st) H Q := w_x (show decode kb1 39 = .ok (.aload_n 0, 1) from by decide +kernel) rfl
theorem m1_40 : M1 40 ls (.ref b :: st) (put b pre s A post) Q = M1 43 ls (.ref (b + 18) :: st) (put b pre s A post) Q := w_get (show decode kb1 40 = .ok (.getfield 62, 3) from by decide +kernel) gf_62 put_o rfl
theorem m1_43 : M1 43 [l0, .val (.int v)] st H Q = M1 44 [l0, .val (.int v)] (.int v :: st) H Q := w_x (show decode kb1 43 = .ok (.iload_n 1, 1) from by decide +kernel) rfl
theorem m1_44 : M1 44 ls st H Q = M1 45 ls (.int (-1) :: st) H Q := w_con (show decode kb1 44 = .ok (.iconst (-1), 1) from by decide +kernel) rfl (by decide)
theorem m1_45  : M1 45 ls (.int v :: .int j :: .ref (b + 18) :: st) (put b pre s A post) Q = (inB j (A 17) ∧ M1 46 ls st (put b pre s (ou A 17 (setA (A 17) j v)) post) Q) := w_ist (show decode kb1 45 = .ok (.iastore, 1) from by decide +kernel) rfl put_a17 (Nat.zero_le _) rfl put_w17
theorem m1_46 : M1 46 [.val (.ref r), l1] st H Q = M1 47 [.val (.ref r), l1] (.ref r :: st) H Q := w_x (show decode kb1 46 = .ok (.aload_n 0, 1) from by decide +kernel) rfl
theorem m1_47 : M1 47 ls (.ref b :: st) (put b pre s A post) Q = M1 50 ls (.ref (b + 19) :: st) (put b pre s A post) Q := w_get (show decode kb1 47 = .ok (.getfield 65, 3) from by decide +kernel) gf_65 put_o rfl
theorem m1_50 : M1 50 [l0, .val (.int v)] st H Q = M1 51 [l0, .val (.int v)] (.int v :: st) H Q := w_x (show decode kb1 50 = .ok (.iload_n 1, 1) from by decide +kernel) rfl
theorem m1_51 : M1 51 ls st H Q = M1 52 ls (.int 0 :: st) H Q := w_con (show decode kb1 51 = .ok (.iconst 0, 1) from by decide +kernel) rfl (by decide)
theorem m1_52  : M1 52 ls (.int v :: .int j :: .ref (b + 19) :: st) (put b pre s A post) Q = (inB j (A 18) ∧ M1 53 ls st (put b pre s (ou A 18 (setA (A 18) j v)) post) Q) := w_ist (show decode kb1 52 = .ok (.iastore, 1) from by decide +kernel) rfl put_a18 (Nat.zero_le _) rfl put_w18
theorem m1_53 : M1 53 [.val (.ref r), l1] st H Q = M1 54 [.val (.ref r), l1] (.ref r :: st) H Q := w_x (show decode kb1 53 = .ok (.aload_n 0, 1) from by decide +kernel) rfl
theorem m1_54 : M1 54 ls (.ref b :: st) (put b pre s A post) Q = M1 57 ls (.ref (b + 20) :: st) (put b pre s A post) Q := w_get (show decode kb1 54 = .ok (.getfield 68, 3) from by decide +kernel) gf_68 put_o rfl
theorem m1_57 : M1 57 [l0, .val (.int v)] st H Q = M1 58 [l0, .val (.int v)] (.int v :: st) H Q := w_x (show decode kb1 57 = .ok (.iload_n 1, 1) from by decide +kernel) rfl
theorem m1_58 : M1 58 ls st H Q = M1 59 ls (.int 0 :: st) H Q := w_con (show decode kb1 58 = .ok (.iconst 0, 1) from by decide +kernel) rfl (by decide)
theorem m1_59  : M1 59 ls (.int v :: .int j :: .ref (b + 20) :: st) (put b pre s A post) Q = (inB j (A 19) ∧ M1 60 ls st (put b pre s (ou A 19 (setA (A 19) j v)) post) Q) := w_ist (show decode kb1 59 = .ok (.iastore, 1) from by decide +kernel) rfl put_a19 (Nat.zero_le _) rfl put_w19
theorem m1_60 : M1 60 [l0, .val (.int v)] st H Q = M1 63 [l0, .val (.int (v + 1))] st H Q := w_iinc (show decode kb1 60 = .ok (.iinc 1 1, 3) from by decide +kernel) rfl (by decide) rfl
theorem m1_63 : M1 63 ls st H Q = M1 12 ls st H Q := w_x (show decode kb1 63 = .ok (.goto (-51), 3) from by decide +kernel) rfl
theorem m1_66 : M1 66 ls [] H Q = Q none H := w_vret (show decode kb1 66 = .ok (.return_, 1) from by decide +kernel) rfl
theorem m2_0 : M2 0 [.val (.ref r), l1, l2, l3, l4, l5] st H Q = M2 1 [.val (.ref r), l1, l2, l3, l4, l5] (.ref r :: st) H Q := w_x (show decode kb2 0 = .ok (.aload_n 0, 1) from by decide +kernel) rfl
theorem m2_1 : M2 1 ls (.ref b :: st) (put b pre s A post) Q = M2 4 ls (.int (s 1) :: st) (put b pre s A post) Q := w_get (show decode kb2 1 = .ok (.getfield 75, 3) from by decide +kernel) gf_75 put_o rfl
theorem m2_4 : M2 4 [.val (.ref r), l1, l2, l3, l4, l5] st H Q = M2 5 [.val (.ref r), l1, l2, l3, l4, l5] (.ref r :: st) H Q := w_x (show decode kb2 4 = .ok (.aload_n 0, 1) from by decide +kernel) rfl
theorem m2_5 : M2 5 ls (.ref b :: st) (put b pre s A post) Q = M2 8 ls (.int (s 0) :: st) (put b pre s A post) Q := w_get (show decode kb2 5 = .ok (.getfield 71, 3) from by decide +kernel) gf_71 put_o rfl
theorem m2_8 : M2 8 ls (.int y :: .int x :: st) H Q = if x < y then M2 13 ls st H Q else M2 11 ls st H Q := w_icmp (show decode kb2 8 = .ok (.if_icmp .lt 5, 3) from by decide +kernel) (i_lt x y) rfl
theorem m2_11 : M2 11 ls st H Q = M2 12 ls (.int (-1) :: st) H Q := w_con (show decode kb2 11 = .ok (.iconst (-1), 1) from by decide +kernel) rfl (by decide)
theorem m2_12 : M2 12 ls (.int z :: st) H Q = Q (some (.int z)) H := w_iret (show decode kb2 12 = .ok (.ireturn, 1) from by decide +kernel) rfl
theorem m2_13 : M2 13 [l0, .val (.int v), l2, l3, l4, l5] st H Q = M2 14 [l0, .val (.int v), l2, l3, l4, l5] (.int v :: st) H Q := w_x (show decode kb2 13 = .ok (.iload_n 1, 1) from by decide +kernel) rfl
theorem m2_14 : M2 14 ls st H Q = M2 15 ls (.int 1 :: st) H Q := w_con (show decode kb2 14 = .ok (.iconst 1, 1) from by decide +kernel) rfl (by decide)
theorem m2_15 : M2 15 ls (.int y :: .int x :: st) H Q = if x < y then M2 25 ls st H Q else M2 18 ls st H Q := w_icmp (show decode kb2 15 = .ok (.if_icmp .lt 10, 3) from by decide +kernel) (i_lt x y) rfl
theorem m2_18 : M2 18 [l0, .val (.int v), l2, l3, l4, l5] st H Q = M2 19 [l0, .val (.int v), l2, l3, l4, l5] (.int v :: st) H Q := w_x (show decode kb2 18 = .ok (.iload_n 1, 1) from by decide +kernel) rfl
theorem m2_19 : M2 19 ls st H Q = M2 22 ls (.int 840 :: st) H Q := w_con (show decode kb2 19 = .ok (.sipush 840, 3) from by decide +kernel) rfl (by decide)
theorem m2_22 : M2 22 ls (.int y :: .int x :: st) H Q = if y < x then M2 25 ls st H Q else M2 28 ls st H Q := w_icmpN (show decode kb2 22 = .ok (.if_icmp .le 6, 3) from by decide +kernel) (i_le x y) rfl
theorem m2_25 : M2 25 ls st H Q = M2 27 ls (.int (-2) :: st) H Q := w_con (show decode kb2 25 = .ok (.bipush (-2), 2) from by decide +kernel) rfl (by decide)
theorem m2_27 : M2 27 ls (.int z :: st) H Q = Q (some (.int z)) H := w_iret (show decode kb2 27 = .ok (.ireturn, 1) from by decide +kernel) rfl
theorem m2_28 : M2 28 [l0, l1, .val (.int v), l3, l4, l5] st H Q = M2 29 [l0, l1, .val (.int v), l3, l4, l5] (.int v :: st) H Q := w_x (show decode kb2 28 = .ok (.iload_n 2, 1) from by decide +kernel) rfl
theorem m2_29 : M2 29 ls st H Q = M2 30 ls (.int 1 :: st) H Q := w_con (show decode kb2 29 = .ok (.iconst 1, 1) from by decide +kernel) rfl (by decide)
theorem m2_30 : M2 30 ls (.int y :: .int x :: st) H Q = if x < y then M2 38 ls st H Q else M2 33 ls st H Q := w_icmp (show decode kb2 30 = .ok (.if_icmp .lt 8, 3) from by decide +kernel) (i_lt x y) rfl
theorem m2_33 : M2 33 [l0, l1, .val (.int v), l3, l4, l5] st H Q = M2 34 [l0, l1, .val (.int v), l3, l4, l5] (.int v :: st) H Q := w_x (show decode kb2 33 = .ok (.iload_n 2, 1) from by decide +kernel) rfl
theorem m2_34 : M2 34 [l0, .val (.int v), l2, l3, l4, l5] st H Q = M2 35 [l0, .val (.int v), l2, l3, l4, l5] (.int v :: st) H Q := w_x (show decode kb2 34 = .ok (.iload_n 1, 1) from by decide +kernel) rfl
theorem m2_35 : M2 35 ls (.int y :: .int x :: st) H Q = if y < x then M2 38 ls st H Q else M2 41 ls st H Q := w_icmpN (show decode kb2 35 = .ok (.if_icmp .le 6, 3) from by decide +kernel) (i_le x y) rfl
theorem m2_38 : M2 38 ls st H Q = M2 40 ls (.int (-2) :: st) H Q := w_con (show decode kb2 38 = .ok (.bipush (-2), 2) from by decide +kernel) rfl (by decide)
theorem m2_40 : M2 40 ls (.int z :: st) H Q = Q (some (.int z)) H := w_iret (show decode kb2 40 = .ok (.ireturn, 1) from by decide +kernel) rfl
theorem m2_41 : M2 41 [l0, l1, l2, .val (.int v), l4, l5] st H Q = M2 42 [l0, l1, l2, .val (.int v), l4, l5] (.int v :: st) H Q := w_x (show decode kb2 41 = .ok (.iload_n 3, 1) from by decide +kernel) rfl
theorem m2_42 : M2 42 ls st H Q = M2 43 ls (.int 1 :: st) H Q := w_con (show decode kb2 42 = .ok (.iconst 1, 1) from by decide +kernel) rfl (by decide)
theorem m2_43 : M2 43 ls (.int y :: .int x :: st) H Q = if x < y then M2 51 ls st H Q else M2 46 ls st H Q := w_icmp (show decode kb2 43 = .ok (.if_icmp .lt 8, 3) from by decide +kernel) (i_lt x y) rfl
theorem m2_46 : M2 46 [l0, l1, l2, .val (.int v), l4, l5] st H Q = M2 47 [l0, l1, l2, .val (.int v), l4, l5] (.int v :: st) H Q := w_x (show decode kb2 46 = .ok (.iload_n 3, 1) from by decide +kernel) rfl
theorem m2_47 : M2 47 [l0, l1, .val (.int v), l3, l4, l5] st H Q = M2 48 [l0, l1, .val (.int v), l3, l4, l5] (.int v :: st) H Q := w_x (show decode kb2 47 = .ok (.iload_n 2, 1) from by decide +kernel) rfl
theorem m2_48 : M2 48 ls (.int y :: .int x :: st) H Q = if y < x then M2 51 ls st H Q else M2 54 ls st H Q := w_icmpN (show decode kb2 48 = .ok (.if_icmp .le 6, 3) from by decide +kernel) (i_le x y) rfl
theorem m2_51 : M2 51 ls st H Q = M2 53 ls (.int (-2) :: st) H Q := w_con (show decode kb2 51 = .ok (.bipush (-2), 2) from by decide +kernel) rfl (by decide)
theorem m2_53 : M2 53 ls (.int z :: st) H Q = Q (some (.int z)) H := w_iret (show decode kb2 53 = .ok (.ireturn, 1) from by decide +kernel) rfl
theorem m2_54 : M2 54 [l0, l1, l2, l3, .val (.int v), l5] st H Q = M2 56 [l0, l1, l2, l3, .val (.int v), l5] (.int v :: st) H Q := w_x (show decode kb2 54 = .ok (.iload 4, 2) from by decide +kernel) rfl
theorem m2_56 : M2 56 ls st H Q = M2 57 ls (.int 1 :: st) H Q := w_con (show decode kb2 56 = .ok (.iconst 1, 1) from by decide +kernel) rfl (by decide)
theorem m2_57 : M2 57 ls (.int y :: .int x :: st) H Q = if x < y then M2 67 ls st H Q else M2 60 ls st H Q := w_icmp (show decode kb2 57 = .ok (.if_icmp .lt 10, 3) from by decide +kernel) (i_lt x y) rfl
theorem m2_60 : M2 60 [l0, l1, l2, l3, .val (.int v), l5] st H Q = M2 62 [l0, l1, l2, l3, .val (.int v), l5] (.int v :: st) H Q := w_x (show decode kb2 60 = .ok (.iload 4, 2) from by decide +kernel) rfl
theorem m2_62 : M2 62 ls st H Q = M2 64 ls (.int 63 :: st) H Q := w_con (show decode kb2 62 = .ok (.bipush 63, 2) from by decide +kernel) rfl (by decide)
theorem m2_64 : M2 64 ls (.int y :: .int x :: st) H Q = if y < x then M2 67 ls st H Q else M2 70 ls st H Q := w_icmpN (show decode kb2 64 = .ok (.if_icmp .le 6, 3) from by decide +kernel) (i_le x y) rfl
theorem m2_67 : M2 67 ls st H Q = M2 69 ls (.int (-3) :: st) H Q := w_con (show decode kb2 67 = .ok (.bipush (-3), 2) from by decide +kernel) rfl (by decide)
theorem m2_69 : M2 69 ls (.int z :: st) H Q = Q (some (.int z)) H := w_iret (show decode kb2 69 = .ok (.ireturn, 1) from by decide +kernel) rfl
theorem m2_70 : M2 70 [.val (.ref r), l1, l2, l3, l4, l5] st H Q = M2 71 [.val (.ref r), l1, l2, l3, l4, l5] (.ref r :: st) H Q := w_x (show decode kb2 70 = .ok (.aload_n 0, 1) from by decide +kernel) rfl
theorem m2_71 : M2 71 [l0, l1, l2, l3, .val (.int v), l5] st H Q = M2 73 [l0, l1, l2, l3, .val (.int v), l5] (.int v :: st) H Q := w_x (show decode kb2 71 = .ok (.iload 4, 2) from by decide +kernel) rfl
theorem cr2_91 : vR tables_1 dn y2 91 = some (true, y3, prog_1_method_3_code, 3, (some .boolean), 1, 0) := pR_of (cR_of (by decide +kernel) rc_3 dn_3 dn_2 (sig := ⟨[.int], some .boolean⟩) (by decide +kernel) (by decide +kernel) rfl rfl) (by decide +kernel) (by decide +kernel)
theorem m2_73 (a0 : Int32) : M2 73 ls [.int a0, .ref b] (put b pre s A post) Q = M3 0 [.val (.ref b), .val (.int a0), .unset] [] (put b pre s A post) (fun v H1 => M2 76 ls (v.toList ++ []) H1 Q) := w_virt (as := [.int a0]) (rest := []) (a := b) (show decode kb2 73 = .ok (.invokevirtual 91, 3) from by decide +kernel) cr2_91 put_o rfl rfl (Nat.le_of_ble_eq_true rfl) (by show 2 ≤ 3; omega) rfl
theorem m2_76 : M2 76 ls (.int x :: st) H Q = if x = 0 then M2 82 ls st H Q else M2 79 ls st H Q := w_if (show decode kb2 76 = .ok (.ifCond .eq 6, 3) from by decide +kernel) (z_eq x) rfl
theorem m2_79 : M2 79 ls st H Q = M2 81 ls (.int (-3) :: st) H Q := w_con (show decode kb2 79 = .ok (.bipush (-3), 2) from by decide +kernel) rfl (by decide)
theorem m2_81 : M2 81 ls (.int z :: st) H Q = Q (some (.int z)) H := w_iret (show decode kb2 81 = .ok (.ireturn, 1) from by decide +kernel) rfl
theorem m2_82 : M2 82 [.val (.ref r), l1, l2, l3, l4, l5] st H Q = M2 83 [.val (.ref r), l1, l2, l3, l4, l5] (.ref r :: st) H Q := w_x (show decode kb2 82 = .ok (.aload_n 0, 1) from by decide +kernel) rfl
theorem m2_83 : M2 83 ls st H Q = M2 84 ls (.int 1 :: st) H Q := w_con (show decode kb2 83 = .ok (.iconst 1, 1) from by decide +kernel) rfl (by decide)
theorem pf2_78 : pfR tables_1 y2.cls y2.name 78 = some ("ResponseTimeGate", 22, .boolean) := by decide +kernel
theorem m2_84 : M2 84 ls (.int v :: .ref b :: st) (put b pre s A post) Q = M2 87 ls st (put b pre (ou s 4 (nar .boolean v)) A post) Q := w_put (show decode kb2 84 = .ok (.putfield 78, 3) from by decide +kernel) pf2_78 put_o (Nat.zero_le _) (by show 22 < 31; omega) rfl put_s4
theorem m2_87 : M2 87 [.val (.ref r), l1, l2, l3, l4, l5] st H Q = M2 88 [.val (.ref r), l1, l2, l3, l4, l5] (.ref r :: st) H Q := w_x (show decode kb2 87 = .ok (.aload_n 0, 1) from by decide +kernel) rfl
theorem m2_88 : M2 88 [l0, .val (.int v), l2, l3, l4, l5] st H Q = M2 89 [l0, .val (.int v), l2, l3, l4, l5] (.int v :: st) H Q := w_x (show decode kb2 88 = .ok (.iload_n 1, 1) from by decide +kernel) rfl
theorem pf2_95 : pfR tables_1 y2.cls y2.name 95 = some ("ResponseTimeGate", 27, .int) := by decide +kernel
theorem m2_89 : M2 89 ls (.int v :: .ref b :: st) (put b pre s A post) Q = M2 92 ls st (put b pre (ou s 5 v) A post) Q := w_put (show decode kb2 89 = .ok (.putfield 95, 3) from by decide +kernel) pf2_95 put_o (Nat.zero_le _) (by show 27 < 31; omega) rfl put_s5
theorem m2_92 : M2 92 [.val (.ref r), l1, l2, l3, l4, l5] st H Q = M2 93 [.val (.ref r), l1, l2, l3, l4, l5] (.ref r :: st) H Q := w_x (show decode kb2 92 = .ok (.aload_n 0, 1) from by decide +kernel) rfl
theorem m2_93 : M2 93 [l0, l1, .val (.int v), l3, l4, l5] st H Q = M2 94 [l0, l1, .val (.int v), l3, l4, l5] (.int v :: st) H Q := w_x (show decode kb2 93 = .ok (.iload_n 2, 1) from by decide +kernel) rfl
theorem pf2_98 : pfR tables_1 y2.cls y2.name 98 = some ("ResponseTimeGate", 28, .int) := by decide +kernel
theorem m2_94 : M2 94 ls (.int v :: .ref b :: st) (put b pre s A post) Q = M2 97 ls st (put b pre (ou s 6 v) A post) Q := w_put (show decode kb2 94 = .ok (.putfield 98, 3) from by decide +kernel) pf2_98 put_o (Nat.zero_le _) (by show 28 < 31; omega) rfl put_s6
theorem m2_97 : M2 97 [.val (.ref r), l1, l2, l3, l4, l5] st H Q = M2 98 [.val (.ref r), l1, l2, l3, l4, l5] (.ref r :: st) H Q := w_x (show decode kb2 97 = .ok (.aload_n 0, 1) from by decide +kernel) rfl
theorem m2_98 : M2 98 [l0, l1, l2, .val (.int v), l4, l5] st H Q = M2 99 [l0, l1, l2, .val (.int v), l4, l5] (.int v :: st) H Q := w_x (show decode kb2 98 = .ok (.iload_n 3, 1) from by decide +kernel) rfl
theorem pf2_101 : pfR tables_1 y2.cls y2.name 101 = some ("ResponseTimeGate", 29, .int) := by decide +kernel
theorem m2_99 : M2 99 ls (.int v :: .ref b :: st) (put b pre s A post) Q = M2 102 ls st (put b pre (ou s 7 v) A post) Q := w_put (show decode kb2 99 = .ok (.putfield 101, 3) from by decide +kernel) pf2_101 put_o (Nat.zero_le _) (by show 29 < 31; omega) rfl put_s7
theorem m2_102 : M2 102 [.val (.ref r), l1, l2, l3, l4, l5] st H Q = M2 103 [.val (.ref r), l1, l2, l3, l4, l5] (.ref r :: st) H Q := w_x (show decode kb2 102 = .ok (.aload_n 0, 1) from by decide +kernel) rfl
theorem m2_103 : M2 103 [l0, l1, l2, l3, .val (.int v), l5] st H Q = M2 105 [l0, l1, l2, l3, .val (.int v), l5] (.int v :: st) H Q := w_x (show decode kb2 103 = .ok (.iload 4, 2) from by decide +kernel) rfl
theorem pf2_104 : pfR tables_1 y2.cls y2.name 104 = some ("ResponseTimeGate", 30, .int) := by decide +kernel
theorem m2_105 : M2 105 ls (.int v :: .ref b :: st) (put b pre s A post) Q = M2 108 ls st (put b pre (ou s 8 v) A post) Q := w_put (show decode kb2 105 = .ok (.putfield 104, 3) from by decide +kernel) pf2_104 put_o (Nat.zero_le _) (by show 30 < 31; omega) rfl put_s8
theorem m2_108 : M2 108 ls st H Q = M2 109 ls (.int 0 :: st) H Q := w_con (show decode kb2 108 = .ok (.iconst 0, 1) from by decide +kernel) rfl (by decide)
theorem m2_109u : M2 109 [l0, l1, l2, l3, l4, .unset] ((.int v) :: st) H Q = M2 111 [l0, l1, l2, l3, l4, .val (.int v)] st H Q := w_st (i := 5) (p := isI) (show decode kb2 109 = .ok (.istore 5, 2) from by decide +kernel) rfl rfl rfl rfl rfl rfl
theorem m2_111 : M2 111 [l0, l1, l2, l3, l4, .val (.int v)] st H Q = M2 113 [l0, l1, l2, l3, l4, .val (.int v)] (.int v :: st) H Q := w_x (show decode kb2 111 = .ok (.iload 5, 2) from by decide +kernel) rfl
theorem m2_113 : M2 113 ls st H Q = M2 114 ls (.int 4 :: st) H Q := w_con (show decode kb2 113 = .ok (.iconst 4, 1) from by decide +kernel) rfl (by decide)
theorem m2_114 : M2 114 ls (.int y :: .int x :: st) H Q = if x < y then M2 117 ls st H Q else M2 139 ls st H Q := w_icmpN (show decode kb2 114 = .ok (.if_icmp .ge 25, 3) from by decide +kernel) (i_ge x y) rfl
theorem m2_117 : M2 117 [.val (.ref r), l1, l2, l3, l4, l5] st H Q = M2 118 [.val (.ref r), l1, l2, l3, l4, l5] (.ref r :: st) H Q := w_x (show decode kb2 117 = .ok (.aload_n 0, 1) from by decide +kernel) rfl
theorem m2_118 : M2 118 ls (.ref b :: st) (put b pre s A post) Q = M2 121 ls (.ref (b + 10) :: st) (put b pre s A post) Q := w_get (show decode kb2 118 = .ok (.getfield 37, 3) from by decide +kernel) gf_37 put_o rfl
theorem m2_121 : M2 121 [l0, l1, l2, l3, l4, .val (.int v)] st H Q = M2 123 [l0, l1, l2, l3, l4, .val (.int v)] (.int v :: st) H Q := w_x (show decode kb2 121 = .ok (.iload 5, 2) from by decide +kernel) rfl
theorem m2_123 : M2 123 ls st H Q = M2 124 ls (.int 0 :: st) H Q := w_con (show decode kb2 123 = .ok (.iconst 0, 1) from by decide +kernel) rfl (by decide)
theorem m2_124  : M2 124 ls (.int v :: .int j :: .ref (b + 10) :: st) (put b pre s A post) Q = (inB j (A 9) ∧ M2 125 ls st (put b pre s (ou A 9 (setA (A 9) j v)) post) Q) := w_ist (show decode kb2 124 = .ok (.iastore, 1) from by decide +kernel) rfl put_a9 (Nat.zero_le _) rfl put_w9
theorem m2_125 : M2 125 [.val (.ref r), l1, l2, l3, l4, l5] st H Q = M2 126 [.val (.ref r), l1, l2, l3, l4, l5] (.ref r :: st) H Q := w_x (show decode kb2 125 = .ok (.aload_n 0, 1) from by decide +kernel) rfl
theorem m2_126 : M2 126 ls (.ref b :: st) (put b pre s A post) Q = M2 129 ls (.ref (b + 11) :: st) (put b pre s A post) Q := w_get (show decode kb2 126 = .ok (.getfield 40, 3) from by decide +kernel) gf_40 put_o rfl
theorem m2_129 : M2 129 [l0, l1, l2, l3, l4, .val (.int v)] st H Q = M2 131 [l0, l1, l2, l3, l4, .val (.int v)] (.int v :: st) H Q := w_x (show decode kb2 129 = .ok (.iload 5, 2) from by decide +kernel) rfl
theorem m2_131 : M2 131 ls st H Q = M2 132 ls (.int 0 :: st) H Q := w_con (show decode kb2 131 = .ok (.iconst 0, 1) from by decide +kernel) rfl (by decide)
theorem m2_132  : M2 132 ls (.int v :: .int j :: .ref (b + 11) :: st) (put b pre s A post) Q = (inB j (A 10) ∧ M2 133 ls st (put b pre s (ou A 10 (setA (A 10) j v)) post) Q) := w_ist (show decode kb2 132 = .ok (.iastore, 1) from by decide +kernel) rfl put_a10 (Nat.zero_le _) rfl put_w10
theorem m2_133 : M2 133 [l0, l1, l2, l3, l4, .val (.int v)] st H Q = M2 136 [l0, l1, l2, l3, l4, .val (.int (v + 1))] st H Q := w_iinc (show decode kb2 133 = .ok (.iinc 5 1, 3) from by decide +kernel) rfl (by decide) rfl
theorem m2_136 : M2 136 ls st H Q = M2 111 ls st H Q := w_x (show decode kb2 136 = .ok (.goto (-25), 3) from by decide +kernel) rfl
theorem m2_139 : M2 139 ls st H Q = M2 140 ls (.int 0 :: st) H Q := w_con (show decode kb2 139 = .ok (.iconst 0, 1) from by decide +kernel) rfl (by decide)
theorem m2_140 : M2 140 ls (.int z :: st) H Q = Q (some (.int z)) H := w_iret (show decode kb2 140 = .ok (.ireturn, 1) from by decide +kernel) rfl
theorem m3_0 : M3 0 ls st H Q = M3 1 ls (.int 0 :: st) H Q := w_con (show decode kb3 0 = .ok (.iconst 0, 1) from by decide +kernel) rfl (by decide)
theorem m3_1u : M3 1 [l0, l1, .unset] ((.int v) :: st) H Q = M3 2 [l0, l1, .val (.int v)] st H Q := w_st (i := 2) (p := isI) (show decode kb3 1 = .ok (.istore_n 2, 1) from by decide +kernel) rfl rfl rfl rfl rfl rfl
theorem m3_2 : M3 2 [l0, l1, .val (.int v)] st H Q = M3 3 [l0, l1, .val (.int v)] (.int v :: st) H Q := w_x (show decode kb3 2 = .ok (.iload_n 2, 1) from by decide +kernel) rfl
theorem m3_3 : M3 3 [.val (.ref r), l1, l2] st H Q = M3 4 [.val (.ref r), l1, l2] (.ref r :: st) H Q := w_x (show decode kb3 3 = .ok (.aload_n 0, 1) from by decide +kernel) rfl
theorem m3_4 : M3 4 ls (.ref b :: st) (put b pre s A post) Q = M3 7 ls (.int (s 1) :: st) (put b pre s A post) Q := w_get (show decode kb3 4 = .ok (.getfield 75, 3) from by decide +kernel) gf_75 put_o rfl
theorem m3_7 : M3 7 ls (.int y :: .int x :: st) H Q = if x < y then M3 10 ls st H Q else M3 28 ls st H Q := w_icmpN (show decode kb3 7 = .ok (.if_icmp .ge 21, 3) from by decide +kernel) (i_ge x y) rfl
theorem m3_10 : M3 10 [.val (.ref r), l1, l2] st H Q = M3 11 [.val (.ref r), l1, l2] (.ref r :: st) H Q := w_x (show decode kb3 10 = .ok (.aload_n 0, 1) from by decide +kernel) rfl
theorem m3_11 : M3 11 ls (.ref b :: st) (put b pre s A post) Q = M3 14 ls (.ref (b + 4) :: st) (put b pre s A post) Q := w_get (show decode kb3 11 = .ok (.getfield 19, 3) from by decide +kernel) gf_19 put_o rfl
theorem m3_14 : M3 14 [l0, l1, .val (.int v)] st H Q = M3 15 [l0, l1, .val (.int v)] (.int v :: st) H Q := w_x (show decode kb3 14 = .ok (.iload_n 2, 1) from by decide +kernel) rfl
theorem m3_15  : M3 15 ls (.int j :: .ref (b + 4) :: st) (put b pre s A post) Q = (inB j (A 3) ∧ M3 16 ls (.int (getA (A 3) j) :: st) (put b pre s A post) Q) := w_ild (show decode kb3 15 = .ok (.iaload, 1) from by decide +kernel) rfl put_a3
theorem m3_16 : M3 16 [l0, .val (.int v), l2] st H Q = M3 17 [l0, .val (.int v), l2] (.int v :: st) H Q := w_x (show decode kb3 16 = .ok (.iload_n 1, 1) from by decide +kernel) rfl
theorem m3_17 : M3 17 ls (.int y :: .int x :: st) H Q = if x = y then M3 20 ls st H Q else M3 22 ls st H Q := w_icmpN (show decode kb3 17 = .ok (.if_icmp .ne 5, 3) from by decide +kernel) (i_ne x y) rfl
theorem m3_20 : M3 20 ls st H Q = M3 21 ls (.int 1 :: st) H Q := w_con (show decode kb3 20 = .ok (.iconst 1, 1) from by decide +kernel) rfl (by decide)
theorem m3_21 : M3 21 ls (.int z :: st) H Q = Q (some (.int (nar .boolean z))) H := w_iretN (show decode kb3 21 = .ok (.ireturn, 1) from by decide +kernel) rfl (by simp)
theorem m3_22 : M3 22 [l0, l1, .val (.int v)] st H Q = M3 25 [l0, l1, .val (.int (v + 1))] st H Q := w_iinc (show decode kb3 22 = .ok (.iinc 2 1, 3) from by decide +kernel) rfl (by decide) rfl
theorem m3_25 : M3 25 ls st H Q = M3 2 ls st H Q := w_x (show decode kb3 25 = .ok (.goto (-23), 3) from by decide +kernel) rfl
theorem m3_28 : M3 28 ls st H Q = M3 29 ls (.int 0 :: st) H Q := w_con (show decode kb3 28 = .ok (.iconst 0, 1) from by decide +kernel) rfl (by decide)
theorem m3_29 : M3 29 ls (.int z :: st) H Q = Q (some (.int (nar .boolean z))) H := w_iretN (show decode kb3 29 = .ok (.ireturn, 1) from by decide +kernel) rfl (by simp)
theorem m4_0 : M4 0 [.val (.ref r), l1, l2, l3] st H Q = M4 1 [.val (.ref r), l1, l2, l3] (.ref r :: st) H Q := w_x (show decode kb4 0 = .ok (.aload_n 0, 1) from by decide +kernel) rfl
theorem m4_1 : M4 1 ls (.ref b :: st) (put b pre s A post) Q = M4 4 ls (.int (s 4) :: st) (put b pre s A post) Q := w_get (show decode kb4 1 = .ok (.getfield 78, 3) from by decide +kernel) gf_78 put_o rfl
theorem m4_4 : M4 4 ls (.int x :: st) H Q = if x = 0 then M4 7 ls st H Q else M4 10 ls st H Q := w_ifN (show decode kb4 4 = .ok (.ifCond .ne 6, 3) from by decide +kernel) (z_ne x) rfl
theorem m4_7 : M4 7 ls st H Q = M4 9 ls (.int (-4) :: st) H Q := w_con (show decode kb4 7 = .ok (.bipush (-4), 2) from by decide +kernel) rfl (by decide)
theorem m4_9 : M4 9 ls (.int z :: st) H Q = Q (some (.int z)) H := w_iret (show decode kb4 9 = .ok (.ireturn, 1) from by decide +kernel) rfl
theorem m4_10 : M4 10 [l0, .val (.int v), l2, l3] st H Q = M4 11 [l0, .val (.int v), l2, l3] (.int v :: st) H Q := w_x (show decode kb4 10 = .ok (.iload_n 1, 1) from by decide +kernel) rfl
theorem m4_11 : M4 11 ls (.int x :: st) H Q = if x < 0 then M4 19 ls st H Q else M4 14 ls st H Q := w_if (show decode kb4 11 = .ok (.ifCond .lt 8, 3) from by decide +kernel) (z_lt x) rfl
theorem m4_14 : M4 14 [l0, .val (.int v), l2, l3] st H Q = M4 15 [l0, .val (.int v), l2, l3] (.int v :: st) H Q := w_x (show decode kb4 14 = .ok (.iload_n 1, 1) from by decide +kernel) rfl
theorem m4_15 : M4 15 ls st H Q = M4 16 ls (.int 4 :: st) H Q := w_con (show decode kb4 15 = .ok (.iconst 4, 1) from by decide +kernel) rfl (by decide)
theorem m4_16 : M4 16 ls (.int y :: .int x :: st) H Q = if x < y then M4 22 ls st H Q else M4 19 ls st H Q := w_icmp (show decode kb4 16 = .ok (.if_icmp .lt 6, 3) from by decide +kernel) (i_lt x y) rfl
theorem m4_19 : M4 19 ls st H Q = M4 21 ls (.int (-2) :: st) H Q := w_con (show decode kb4 19 = .ok (.bipush (-2), 2) from by decide +kernel) rfl (by decide)
theorem m4_21 : M4 21 ls (.int z :: st) H Q = Q (some (.int z)) H := w_iret (show decode kb4 21 = .ok (.ireturn, 1) from by decide +kernel) rfl
theorem m4_22 : M4 22 [l0, l1, .val (.int v), l3] st H Q = M4 23 [l0, l1, .val (.int v), l3] (.int v :: st) H Q := w_x (show decode kb4 22 = .ok (.iload_n 2, 1) from by decide +kernel) rfl
theorem m4_23 : M4 23 ls (.int x :: st) H Q = if x < 0 then M4 31 ls st H Q else M4 26 ls st H Q := w_if (show decode kb4 23 = .ok (.ifCond .lt 8, 3) from by decide +kernel) (z_lt x) rfl
theorem m4_26 : M4 26 [l0, l1, l2, .val (.int v)] st H Q = M4 27 [l0, l1, l2, .val (.int v)] (.int v :: st) H Q := w_x (show decode kb4 26 = .ok (.iload_n 3, 1) from by decide +kernel) rfl
theorem m4_27 : M4 27 ls st H Q = M4 28 ls (.int 1 :: st) H Q := w_con (show decode kb4 27 = .ok (.iconst 1, 1) from by decide +kernel) rfl (by decide)
theorem m4_28 : M4 28 ls (.int y :: .int x :: st) H Q = if x < y then M4 31 ls st H Q else M4 34 ls st H Q := w_icmpN (show decode kb4 28 = .ok (.if_icmp .ge 6, 3) from by decide +kernel) (i_ge x y) rfl
theorem m4_31 : M4 31 ls st H Q = M4 33 ls (.int (-2) :: st) H Q := w_con (show decode kb4 31 = .ok (.bipush (-2), 2) from by decide +kernel) rfl (by decide)
theorem m4_33 : M4 33 ls (.int z :: st) H Q = Q (some (.int z)) H := w_iret (show decode kb4 33 = .ok (.ireturn, 1) from by decide +kernel) rfl
theorem m4_34 : M4 34 [l0, l1, .val (.int v), l3] st H Q = M4 35 [l0, l1, .val (.int v), l3] (.int v :: st) H Q := w_x (show decode kb4 34 = .ok (.iload_n 2, 1) from by decide +kernel) rfl
theorem m4_35 : M4 35 [.val (.ref r), l1, l2, l3] st H Q = M4 36 [.val (.ref r), l1, l2, l3] (.ref r :: st) H Q := w_x (show decode kb4 35 = .ok (.aload_n 0, 1) from by decide +kernel) rfl
theorem m4_36 : M4 36 ls (.ref b :: st) (put b pre s A post) Q = M4 39 ls (.int (s 7) :: st) (put b pre s A post) Q := w_get (show decode kb4 36 = .ok (.getfield 101, 3) from by decide +kernel) gf_101 put_o rfl
theorem m4_39 : M4 39 ls (.int y :: .int x :: st) H Q = if y < x then M4 52 ls st H Q else M4 42 ls st H Q := w_icmp (show decode kb4 39 = .ok (.if_icmp .gt 13, 3) from by decide +kernel) (i_gt x y) rfl
theorem m4_42 : M4 42 [l0, l1, l2, .val (.int v)] st H Q = M4 43 [l0, l1, l2, .val (.int v)] (.int v :: st) H Q := w_x (show decode kb4 42 = .ok (.iload_n 3, 1) from by decide +kernel) rfl
theorem m4_43 : M4 43 [.val (.ref r), l1, l2, l3] st H Q = M4 44 [.val (.ref r), l1, l2, l3] (.ref r :: st) H Q := w_x (show decode kb4 43 = .ok (.aload_n 0, 1) from by decide +kernel) rfl
theorem m4_44 : M4 44 ls (.ref b :: st) (put b pre s A post) Q = M4 47 ls (.int (s 7) :: st) (put b pre s A post) Q := w_get (show decode kb4 44 = .ok (.getfield 101, 3) from by decide +kernel) gf_101 put_o rfl
theorem m4_47 : M4 47 [l0, l1, .val (.int v), l3] st H Q = M4 48 [l0, l1, .val (.int v), l3] (.int v :: st) H Q := w_x (show decode kb4 47 = .ok (.iload_n 2, 1) from by decide +kernel) rfl
theorem m4_48 : M4 48 ls (.int y :: .int x :: st) H Q = M4 49 ls (.int (x - y) :: st) H Q := w_x (show decode kb4 48 = .ok (.isub, 1) from by decide +kernel) rfl
theorem m4_49 : M4 49 ls (.int y :: .int x :: st) H Q = if y < x then M4 52 ls st H Q else M4 55 ls st H Q := w_icmpN (show decode kb4 49 = .ok (.if_icmp .le 6, 3) from by decide +kernel) (i_le x y) rfl
theorem m4_52 : M4 52 ls st H Q = M4 54 ls (.int (-2) :: st) H Q := w_con (show decode kb4 52 = .ok (.bipush (-2), 2) from by decide +kernel) rfl (by decide)
theorem m4_54 : M4 54 ls (.int z :: st) H Q = Q (some (.int z)) H := w_iret (show decode kb4 54 = .ok (.ireturn, 1) from by decide +kernel) rfl
theorem m4_55 : M4 55 [.val (.ref r), l1, l2, l3] st H Q = M4 56 [.val (.ref r), l1, l2, l3] (.ref r :: st) H Q := w_x (show decode kb4 55 = .ok (.aload_n 0, 1) from by decide +kernel) rfl
theorem m4_56 : M4 56 ls (.ref b :: st) (put b pre s A post) Q = M4 59 ls (.ref (b + 11) :: st) (put b pre s A post) Q := w_get (show decode kb4 56 = .ok (.getfield 40, 3) from by decide +kernel) gf_40 put_o rfl
theorem m4_59 : M4 59 [l0, .val (.int v), l2, l3] st H Q = M4 60 [l0, .val (.int v), l2, l3] (.int v :: st) H Q := w_x (show decode kb4 59 = .ok (.iload_n 1, 1) from by decide +kernel) rfl
theorem m4_60  : M4 60 ls (.int j :: .ref (b + 11) :: st) (put b pre s A post) Q = (inB j (A 10) ∧ M4 61 ls (.int (getA (A 10) j) :: st) (put b pre s A post) Q) := w_ild (show decode kb4 60 = .ok (.iaload, 1) from by decide +kernel) rfl put_a10
theorem m4_61 : M4 61 ls (.int x :: st) H Q = if 0 < x then M4 64 ls st H Q else M4 67 ls st H Q := w_ifN (show decode kb4 61 = .ok (.ifCond .le 6, 3) from by decide +kernel) (z_le x) rfl
theorem m4_64 : M4 64 ls st H Q = M4 66 ls (.int (-5) :: st) H Q := w_con (show decode kb4 64 = .ok (.bipush (-5), 2) from by decide +kernel) rfl (by decide)
theorem m4_66 : M4 66 ls (.int z :: st) H Q = Q (some (.int z)) H := w_iret (show decode kb4 66 = .ok (.ireturn, 1) from by decide +kernel) rfl
theorem m4_67 : M4 67 [.val (.ref r), l1, l2, l3] st H Q = M4 68 [.val (.ref r), l1, l2, l3] (.ref r :: st) H Q := w_x (show decode kb4 67 = .ok (.aload_n 0, 1) from by decide +kernel) rfl
theorem m4_68 : M4 68 [l0, l1, .val (.int v), l3] st H Q = M4 69 [l0, l1, .val (.int v), l3] (.int v :: st) H Q := w_x (show decode kb4 68 = .ok (.iload_n 2, 1) from by decide +kernel) rfl
theorem m4_69 : M4 69 [l0, l1, l2, .val (.int v)] st H Q = M4 70 [l0, l1, l2, .val (.int v)] (.int v :: st) H Q := w_x (show decode kb4 69 = .ok (.iload_n 3, 1) from by decide +kernel) rfl
theorem cr4_107 : vR tables_1 dn y4 107 = some (true, y5, prog_1_method_5_code, 6, (some .boolean), 2, 0) := pR_of (cR_of (by decide +kernel) rc_5 dn_5 dn_4 (sig := ⟨[.int, .int], some .boolean⟩) (by decide +kernel) (by decide +kernel) rfl rfl) (by decide +kernel) (by decide +kernel)
theorem m4_70 (a0 : Int32) (a1 : Int32) : M4 70 ls [.int a1, .int a0, .ref b] (put b pre s A post) Q = M5 0 [.val (.ref b), .val (.int a0), .val (.int a1), .unset, .unset, .unset] [] (put b pre s A post) (fun v H1 => M4 73 ls (v.toList ++ []) H1 Q) := w_virt (as := [.int a1, .int a0]) (rest := []) (a := b) (show decode kb4 70 = .ok (.invokevirtual 107, 3) from by decide +kernel) cr4_107 put_o rfl rfl (Nat.le_of_ble_eq_true rfl) (by show 3 ≤ 6; omega) rfl
theorem m4_73 : M4 73 ls (.int x :: st) H Q = if x = 0 then M4 79 ls st H Q else M4 76 ls st H Q := w_if (show decode kb4 73 = .ok (.ifCond .eq 6, 3) from by decide +kernel) (z_eq x) rfl
theorem m4_76 : M4 76 ls st H Q = M4 78 ls (.int (-5) :: st) H Q := w_con (show decode kb4 76 = .ok (.bipush (-5), 2) from by decide +kernel) rfl (by decide)
theorem m4_78 : M4 78 ls (.int z :: st) H Q = Q (some (.int z)) H := w_iret (show decode kb4 78 = .ok (.ireturn, 1) from by decide +kernel) rfl
theorem m4_79 : M4 79 [.val (.ref r), l1, l2, l3] st H Q = M4 80 [.val (.ref r), l1, l2, l3] (.ref r :: st) H Q := w_x (show decode kb4 79 = .ok (.aload_n 0, 1) from by decide +kernel) rfl
theorem m4_80 : M4 80 ls (.ref b :: st) (put b pre s A post) Q = M4 83 ls (.ref (b + 10) :: st) (put b pre s A post) Q := w_get (show decode kb4 80 = .ok (.getfield 37, 3) from by decide +kernel) gf_37 put_o rfl
theorem m4_83 : M4 83 [l0, .val (.int v), l2, l3] st H Q = M4 84 [l0, .val (.int v), l2, l3] (.int v :: st) H Q := w_x (show decode kb4 83 = .ok (.iload_n 1, 1) from by decide +kernel) rfl
theorem m4_84 : M4 84 [l0, l1, .val (.int v), l3] st H Q = M4 85 [l0, l1, .val (.int v), l3] (.int v :: st) H Q := w_x (show decode kb4 84 = .ok (.iload_n 2, 1) from by decide +kernel) rfl
theorem m4_85  : M4 85 ls (.int v :: .int j :: .ref (b + 10) :: st) (put b pre s A post) Q = (inB j (A 9) ∧ M4 86 ls st (put b pre s (ou A 9 (setA (A 9) j v)) post) Q) := w_ist (show decode kb4 85 = .ok (.iastore, 1) from by decide +kernel) rfl put_a9 (Nat.zero_le _) rfl put_w9
theorem m4_86 : M4 86 [.val (.ref r), l1, l2, l3] st H Q = M4 87 [.val (.ref r), l1, l2, l3] (.ref r :: st) H Q := w_x (show decode kb4 86 = .ok (.aload_n 0, 1) from by decide +kernel) rfl
theorem m4_87 : M4 87 ls (.ref b :: st) (put b pre s A post) Q = M4 90 ls (.ref (b + 11) :: st) (put b pre s A post) Q := w_get (show decode kb4 87 = .ok (.getfield 40, 3) from by decide +kernel) gf_40 put_o rfl
theorem m4_90 : M4 90 [l0, .val (.int v), l2, l3] st H Q = M4 91 [l0, .val (.int v), l2, l3] (.int v :: st) H Q := w_x (show decode kb4 90 = .ok (.iload_n 1, 1) from by decide +kernel) rfl
theorem m4_91 : M4 91 [l0, l1, l2, .val (.int v)] st H Q = M4 92 [l0, l1, l2, .val (.int v)] (.int v :: st) H Q := w_x (show decode kb4 91 = .ok (.iload_n 3, 1) from by decide +kernel) rfl
theorem m4_92  : M4 92 ls (.int v :: .int j :: .ref (b + 11) :: st) (put b pre s A post) Q = (inB j (A 10) ∧ M4 93 ls st (put b pre s (ou A 10 (setA (A 10) j v)) post) Q) := w_ist (show decode kb4 92 = .ok (.iastore, 1) from by decide +kernel) rfl put_a10 (Nat.zero_le _) rfl put_w10
theorem m4_93 : M4 93 ls st H Q = M4 94 ls (.int 0 :: st) H Q := w_con (show decode kb4 93 = .ok (.iconst 0, 1) from by decide +kernel) rfl (by decide)
theorem m4_94 : M4 94 ls (.int z :: st) H Q = Q (some (.int z)) H := w_iret (show decode kb4 94 = .ok (.ireturn, 1) from by decide +kernel) rfl
theorem m5_0 : M5 0 ls st H Q = M5 1 ls (.int 0 :: st) H Q := w_con (show decode kb5 0 = .ok (.iconst 0, 1) from by decide +kernel) rfl (by decide)
theorem m5_1u : M5 1 [l0, l1, l2, .unset, l4, l5] ((.int v) :: st) H Q = M5 2 [l0, l1, l2, .val (.int v), l4, l5] st H Q := w_st (i := 3) (p := isI) (show decode kb5 1 = .ok (.istore_n 3, 1) from by decide +kernel) rfl rfl rfl rfl rfl rfl
theorem m5_2 : M5 2 [l0, l1, l2, .val (.int v), l4, l5] st H Q = M5 3 [l0, l1, l2, .val (.int v), l4, l5] (.int v :: st) H Q := w_x (show decode kb5 2 = .ok (.iload_n 3, 1) from by decide +kernel) rfl
theorem m5_3 : M5 3 ls st H Q = M5 4 ls (.int 4 :: st) H Q := w_con (show decode kb5 3 = .ok (.iconst 4, 1) from by decide +kernel) rfl (by decide)
theorem m5_4 : M5 4 ls (.int y :: .int x :: st) H Q = if x < y then M5 7 ls st H Q else M5 56 ls st H Q := w_icmpN (show decode kb5 4 = .ok (.if_icmp .ge 52, 3) from by decide +kernel) (i_ge x y) rfl
theorem m5_7 : M5 7 [.val (.ref r), l1, l2, l3, l4, l5] st H Q = M5 8 [.val (.ref r), l1, l2, l3, l4, l5] (.ref r :: st) H Q := w_x (show decode kb5 7 = .ok (.aload_n 0, 1) from by decide +kernel) rfl
theorem m5_8 : M5 8 ls (.ref b :: st) (put b pre s A post) Q = M5 11 ls (.ref (b + 11) :: st) (put b pre s A post) Q := w_get (show decode kb5 8 = .ok (.getfield 40, 3) from by decide +kernel) gf_40 put_o rfl
theorem m5_11 : M5 11 [l0, l1, l2, .val (.int v), l4, l5] st H Q = M5 12 [l0, l1, l2, .val (.int v), l4, l5] (.int v :: st) H Q := w_x (show decode kb5 11 = .ok (.iload_n 3, 1) from by decide +kernel) rfl
theorem m5_12  : M5 12 ls (.int j :: .ref (b + 11) :: st) (put b pre s A post) Q = (inB j (A 10) ∧ M5 13 ls (.int (getA (A 10) j) :: st) (put b pre s A post) Q) := w_ild (show decode kb5 12 = .ok (.iaload, 1) from by decide +kernel) rfl put_a10
theorem m5_13u : M5 13 [l0, l1, l2, l3, .unset, l5] ((.int v) :: st) H Q = M5 15 [l0, l1, l2, l3, .val (.int v), l5] st H Q := w_st (i := 4) (p := isI) (show decode kb5 13 = .ok (.istore 4, 2) from by decide +kernel) rfl rfl rfl rfl rfl rfl
theorem m5_13i : M5 13 [l0, l1, l2, l3, .val (.int z), l5] ((.int v) :: st) H Q = M5 15 [l0, l1, l2, l3, .val (.int v), l5] st H Q := w_st (i := 4) (p := isI) (show decode kb5 13 = .ok (.istore 4, 2) from by decide +kernel) rfl rfl rfl rfl rfl rfl
theorem m5_13r : M5 13 [l0, l1, l2, l3, .val (.ref q), l5] ((.int v) :: st) H Q = M5 15 [l0, l1, l2, l3, .val (.int v), l5] st H Q := w_st (i := 4) (p := isI) (show decode kb5 13 = .ok (.istore 4, 2) from by decide +kernel) rfl rfl rfl rfl rfl rfl
theorem m5_15 : M5 15 [l0, l1, l2, l3, .val (.int v), l5] st H Q = M5 17 [l0, l1, l2, l3, .val (.int v), l5] (.int v :: st) H Q := w_x (show decode kb5 15 = .ok (.iload 4, 2) from by decide +kernel) rfl
theorem m5_17 : M5 17 ls (.int x :: st) H Q = if 0 < x then M5 23 ls st H Q else M5 20 ls st H Q := w_if (show decode kb5 17 = .ok (.ifCond .gt 6, 3) from by decide +kernel) (z_gt x) rfl
theorem m5_20 : M5 20 ls st H Q = M5 50 ls st H Q := w_x (show decode kb5 20 = .ok (.goto 30, 3) from by decide +kernel) rfl
theorem m5_23 : M5 23 [.val (.ref r), l1, l2, l3, l4, l5] st H Q = M5 24 [.val (.ref r), l1, l2, l3, l4, l5] (.ref r :: st) H Q := w_x (show decode kb5 23 = .ok (.aload_n 0, 1) from by decide +kernel) rfl
theorem m5_24 : M5 24 ls (.ref b :: st) (put b pre s A post) Q = M5 27 ls (.ref (b + 10) :: st) (put b pre s A post) Q := w_get (show decode kb5 24 = .ok (.getfield 37, 3) from by decide +kernel) gf_37 put_o rfl
theorem m5_27 : M5 27 [l0, l1, l2, .val (.int v), l4, l5] st H Q = M5 28 [l0, l1, l2, .val (.int v), l4, l5] (.int v :: st) H Q := w_x (show decode kb5 27 = .ok (.iload_n 3, 1) from by decide +kernel) rfl
theorem m5_28  : M5 28 ls (.int j :: .ref (b + 10) :: st) (put b pre s A post) Q = (inB j (A 9) ∧ M5 29 ls (.int (getA (A 9) j) :: st) (put b pre s A post) Q) := w_ild (show decode kb5 28 = .ok (.iaload, 1) from by decide +kernel) rfl put_a9
theorem m5_29u : M5 29 [l0, l1, l2, l3, l4, .unset] ((.int v) :: st) H Q = M5 31 [l0, l1, l2, l3, l4, .val (.int v)] st H Q := w_st (i := 5) (p := isI) (show decode kb5 29 = .ok (.istore 5, 2) from by decide +kernel) rfl rfl rfl rfl rfl rfl
theorem m5_29i : M5 29 [l0, l1, l2, l3, l4, .val (.int z)] ((.int v) :: st) H Q = M5 31 [l0, l1, l2, l3, l4, .val (.int v)] st H Q := w_st (i := 5) (p := isI) (show decode kb5 29 = .ok (.istore 5, 2) from by decide +kernel) rfl rfl rfl rfl rfl rfl
theorem m5_29r : M5 29 [l0, l1, l2, l3, l4, .val (.ref q)] ((.int v) :: st) H Q = M5 31 [l0, l1, l2, l3, l4, .val (.int v)] st H Q := w_st (i := 5) (p := isI) (show decode kb5 29 = .ok (.istore 5, 2) from by decide +kernel) rfl rfl rfl rfl rfl rfl
theorem m5_31 : M5 31 [l0, .val (.int v), l2, l3, l4, l5] st H Q = M5 32 [l0, .val (.int v), l2, l3, l4, l5] (.int v :: st) H Q := w_x (show decode kb5 31 = .ok (.iload_n 1, 1) from by decide +kernel) rfl
theorem m5_32 : M5 32 [l0, l1, l2, l3, l4, .val (.int v)] st H Q = M5 34 [l0, l1, l2, l3, l4, .val (.int v)] (.int v :: st) H Q := w_x (show decode kb5 32 = .ok (.iload 5, 2) from by decide +kernel) rfl
theorem m5_34 : M5 34 [l0, l1, l2, l3, .val (.int v), l5] st H Q = M5 36 [l0, l1, l2, l3, .val (.int v), l5] (.int v :: st) H Q := w_x (show decode kb5 34 = .ok (.iload 4, 2) from by decide +kernel) rfl
theorem m5_36 : M5 36 ls (.int y :: .int x :: st) H Q = M5 37 ls (.int (x + y) :: st) H Q := w_x (show decode kb5 36 = .ok (.iadd, 1) from by decide +kernel) rfl
theorem m5_37 : M5 37 ls (.int y :: .int x :: st) H Q = if x < y then M5 40 ls st H Q else M5 50 ls st H Q := w_icmpN (show decode kb5 37 = .ok (.if_icmp .ge 13, 3) from by decide +kernel) (i_ge x y) rfl
theorem m5_40 : M5 40 [l0, l1, l2, l3, l4, .val (.int v)] st H Q = M5 42 [l0, l1, l2, l3, l4, .val (.int v)] (.int v :: st) H Q := w_x (show decode kb5 40 = .ok (.iload 5, 2) from by decide +kernel) rfl
theorem m5_42 : M5 42 [l0, .val (.int v), l2, l3, l4, l5] st H Q = M5 43 [l0, .val (.int v), l2, l3, l4, l5] (.int v :: st) H Q := w_x (show decode kb5 42 = .ok (.iload_n 1, 1) from by decide +kernel) rfl
theorem m5_43 : M5 43 [l0, l1, .val (.int v), l3, l4, l5] st H Q = M5 44 [l0, l1, .val (.int v), l3, l4, l5] (.int v :: st) H Q := w_x (show decode kb5 43 = .ok (.iload_n 2, 1) from by decide +kernel) rfl
theorem m5_44 : M5 44 ls (.int y :: .int x :: st) H Q = M5 45 ls (.int (x + y) :: st) H Q := w_x (show decode kb5 44 = .ok (.iadd, 1) from by decide +kernel) rfl
theorem m5_45 : M5 45 ls (.int y :: .int x :: st) H Q = if x < y then M5 48 ls st H Q else M5 50 ls st H Q := w_icmpN (show decode kb5 45 = .ok (.if_icmp .ge 5, 3) from by decide +kernel) (i_ge x y) rfl
theorem m5_48 : M5 48 ls st H Q = M5 49 ls (.int 1 :: st) H Q := w_con (show decode kb5 48 = .ok (.iconst 1, 1) from by decide +kernel) rfl (by decide)
theorem m5_49 : M5 49 ls (.int z :: st) H Q = Q (some (.int (nar .boolean z))) H := w_iretN (show decode kb5 49 = .ok (.ireturn, 1) from by decide +kernel) rfl (by simp)
theorem m5_50 : M5 50 [l0, l1, l2, .val (.int v), l4, l5] st H Q = M5 53 [l0, l1, l2, .val (.int (v + 1)), l4, l5] st H Q := w_iinc (show decode kb5 50 = .ok (.iinc 3 1, 3) from by decide +kernel) rfl (by decide) rfl
theorem m5_53 : M5 53 ls st H Q = M5 2 ls st H Q := w_x (show decode kb5 53 = .ok (.goto (-51), 3) from by decide +kernel) rfl
theorem m5_56 : M5 56 ls st H Q = M5 57 ls (.int 0 :: st) H Q := w_con (show decode kb5 56 = .ok (.iconst 0, 1) from by decide +kernel) rfl (by decide)
theorem m5_57 : M5 57 ls (.int z :: st) H Q = Q (some (.int (nar .boolean z))) H := w_iretN (show decode kb5 57 = .ok (.ireturn, 1) from by decide +kernel) rfl (by simp)
theorem m6_0 : M6 0 [.val (.ref r), l1, l2, l3] st H Q = M6 1 [.val (.ref r), l1, l2, l3] (.ref r :: st) H Q := w_x (show decode kb6 0 = .ok (.aload_n 0, 1) from by decide +kernel) rfl
theorem m6_1 : M6 1 ls (.ref b :: st) (put b pre s A post) Q = M6 4 ls (.int (s 4) :: st) (put b pre s A post) Q := w_get (show decode kb6 1 = .ok (.getfield 78, 3) from by decide +kernel) gf_78 put_o rfl
theorem m6_4 : M6 4 ls (.int x :: st) H Q = if x = 0 then M6 7 ls st H Q else M6 10 ls st H Q := w_ifN (show decode kb6 4 = .ok (.ifCond .ne 6, 3) from by decide +kernel) (z_ne x) rfl
theorem m6_7 : M6 7 ls st H Q = M6 9 ls (.int (-4) :: st) H Q := w_con (show decode kb6 7 = .ok (.bipush (-4), 2) from by decide +kernel) rfl (by decide)
theorem m6_9 : M6 9 ls (.int z :: st) H Q = Q (some (.int z)) H := w_iret (show decode kb6 9 = .ok (.ireturn, 1) from by decide +kernel) rfl
theorem m6_10 : M6 10 [.val (.ref r), l1, l2, l3] st H Q = M6 11 [.val (.ref r), l1, l2, l3] (.ref r :: st) H Q := w_x (show decode kb6 10 = .ok (.aload_n 0, 1) from by decide +kernel) rfl
theorem m6_11 : M6 11 ls (.ref b :: st) (put b pre s A post) Q = M6 14 ls (.int (s 1) :: st) (put b pre s A post) Q := w_get (show decode kb6 11 = .ok (.getfield 75, 3) from by decide +kernel) gf_75 put_o rfl
theorem m6_14u : M6 14 [l0, .unset, l2, l3] ((.int v) :: st) H Q = M6 15 [l0, .val (.int v), l2, l3] st H Q := w_st (i := 1) (p := isI) (show decode kb6 14 = .ok (.istore_n 1, 1) from by decide +kernel) rfl rfl rfl rfl rfl rfl
theorem m6_15 : M6 15 [l0, .val (.int v), l2, l3] st H Q = M6 16 [l0, .val (.int v), l2, l3] (.int v :: st) H Q := w_x (show decode kb6 15 = .ok (.iload_n 1, 1) from by decide +kernel) rfl
theorem m6_16 : M6 16 ls st H Q = M6 18 ls (.int 8 :: st) H Q := w_con (show decode kb6 16 = .ok (.bipush 8, 2) from by decide +kernel) rfl (by decide)
theorem m6_18 : M6 18 ls (.int y :: .int x :: st) H Q = if x < y then M6 28 ls st H Q else M6 21 ls st H Q := w_icmp (show decode kb6 18 = .ok (.if_icmp .lt 10, 3) from by decide +kernel) (i_lt x y) rfl
theorem m6_21 : M6 21 [.val (.ref r), l1, l2, l3] st H Q = M6 22 [.val (.ref r), l1, l2, l3] (.ref r :: st) H Q := w_x (show decode kb6 21 = .ok (.aload_n 0, 1) from by decide +kernel) rfl
theorem m6_22 : M6 22 ls st H Q = M6 23 ls (.int 0 :: st) H Q := w_con (show decode kb6 22 = .ok (.iconst 0, 1) from by decide +kernel) rfl (by decide)
theorem pf6_78 : pfR tables_1 y6.cls y6.name 78 = some ("ResponseTimeGate", 22, .boolean) := by decide +kernel
theorem m6_23 : M6 23 ls (.int v :: .ref b :: st) (put b pre s A post) Q = M6 26 ls st (put b pre (ou s 4 (nar .boolean v)) A post) Q := w_put (show decode kb6 23 = .ok (.putfield 78, 3) from by decide +kernel) pf6_78 put_o (Nat.zero_le _) (by show 22 < 31; omega) rfl put_s4
theorem m6_26 : M6 26 ls st H Q = M6 27 ls (.int (-1) :: st) H Q := w_con (show decode kb6 26 = .ok (.iconst (-1), 1) from by decide +kernel) rfl (by decide)
theorem m6_27 : M6 27 ls (.int z :: st) H Q = Q (some (.int z)) H := w_iret (show decode kb6 27 = .ok (.ireturn, 1) from by decide +kernel) rfl
theorem m6_28 : M6 28 [.val (.ref r), l1, l2, l3] st H Q = M6 29 [.val (.ref r), l1, l2, l3] (.ref r :: st) H Q := w_x (show decode kb6 28 = .ok (.aload_n 0, 1) from by decide +kernel) rfl
theorem m6_29 : M6 29 [.val (.ref r), l1, l2, l3] st H Q = M6 30 [.val (.ref r), l1, l2, l3] (.ref r :: st) H Q := w_x (show decode kb6 29 = .ok (.aload_n 0, 1) from by decide +kernel) rfl
theorem m6_30 : M6 30 ls (.ref b :: st) (put b pre s A post) Q = M6 33 ls (.int (s 2) :: st) (put b pre s A post) Q := w_get (show decode kb6 30 = .ok (.getfield 85, 3) from by decide +kernel) gf_85 put_o rfl
theorem m6_33 : M6 33 [.val (.ref r), l1, l2, l3] st H Q = M6 34 [.val (.ref r), l1, l2, l3] (.ref r :: st) H Q := w_x (show decode kb6 33 = .ok (.aload_n 0, 1) from by decide +kernel) rfl
theorem m6_34 : M6 34 ls (.ref b :: st) (put b pre s A post) Q = M6 37 ls (.int (s 5) :: st) (put b pre s A post) Q := w_get (show decode kb6 34 = .ok (.getfield 95, 3) from by decide +kernel) gf_95 put_o rfl
theorem cr6_111 : vR tables_1 dn y6 111 = some (true, y7, prog_1_method_10_code, 4, (some .int), 2, 22) := pR_of (cR_of (by decide +kernel) rc_7 dn_7 dn_6 (sig := ⟨[.int, .int], some .int⟩) (by decide +kernel) (by decide +kernel) rfl rfl) (by decide +kernel) (by decide +kernel)
theorem m6_37 (a0 : Int32) (a1 : Int32) : M6 37 ls [.int a1, .int a0, .ref b] (put b pre s A post) Q = M7 0 [.val (.ref b), .val (.int a0), .val (.int a1), .unset] [] (put b pre s A post) (fun v H1 => M6 40 ls (v.toList ++ []) H1 Q) := w_virt (as := [.int a1, .int a0]) (rest := []) (a := b) (show decode kb6 37 = .ok (.invokevirtual 111, 3) from by decide +kernel) cr6_111 put_o rfl rfl (Nat.le_of_ble_eq_true rfl) (by show 3 ≤ 4; omega) rfl
theorem m6_40u : M6 40 [l0, l1, .unset, l3] ((.int v) :: st) H Q = M6 41 [l0, l1, .val (.int v), l3] st H Q := w_st (i := 2) (p := isI) (show decode kb6 40 = .ok (.istore_n 2, 1) from by decide +kernel) rfl rfl rfl rfl rfl rfl
theorem m6_41 : M6 41 [l0, l1, .val (.int v), l3] st H Q = M6 42 [l0, l1, .val (.int v), l3] (.int v :: st) H Q := w_x (show decode kb6 41 = .ok (.iload_n 2, 1) from by decide +kernel) rfl
theorem m6_42 : M6 42 ls st H Q = M6 45 ls (.int 840 :: st) H Q := w_con (show decode kb6 42 = .ok (.sipush 840, 3) from by decide +kernel) rfl (by decide)
theorem m6_45 : M6 45 ls (.int y :: .int x :: st) H Q = if y < x then M6 48 ls st H Q else M6 61 ls st H Q := w_icmpN (show decode kb6 45 = .ok (.if_icmp .le 16, 3) from by decide +kernel) (i_le x y) rfl
theorem m6_48 : M6 48 [.val (.ref r), l1, l2, l3] st H Q = M6 49 [.val (.ref r), l1, l2, l3] (.ref r :: st) H Q := w_x (show decode kb6 48 = .ok (.aload_n 0, 1) from by decide +kernel) rfl
theorem m6_49 : M6 49 ls st H Q = M6 50 ls (.int 0 :: st) H Q := w_con (show decode kb6 49 = .ok (.iconst 0, 1) from by decide +kernel) rfl (by decide)
theorem m6_50 : M6 50 ls (.int v :: .ref b :: st) (put b pre s A post) Q = M6 53 ls st (put b pre (ou s 4 (nar .boolean v)) A post) Q := w_put (show decode kb6 50 = .ok (.putfield 78, 3) from by decide +kernel) pf6_78 put_o (Nat.zero_le _) (by show 22 < 31; omega) rfl put_s4
theorem m6_53 : M6 53 [.val (.ref r), l1, l2, l3] st H Q = M6 54 [.val (.ref r), l1, l2, l3] (.ref r :: st) H Q := w_x (show decode kb6 53 = .ok (.aload_n 0, 1) from by decide +kernel) rfl
theorem m6_54 : M6 54 ls st H Q = M6 55 ls (.int (-1) :: st) H Q := w_con (show decode kb6 54 = .ok (.iconst (-1), 1) from by decide +kernel) rfl (by decide)
theorem pf6_82 : pfR tables_1 y6.cls y6.name 82 = some ("ResponseTimeGate", 23, .int) := by decide +kernel
theorem m6_55 : M6 55 ls (.int v :: .ref b :: st) (put b pre s A post) Q = M6 58 ls st (put b pre (ou s 3 v) A post) Q := w_put (show decode kb6 55 = .ok (.putfield 82, 3) from by decide +kernel) pf6_82 put_o (Nat.zero_le _) (by show 23 < 31; omega) rfl put_s3
theorem m6_58 : M6 58 ls st H Q = M6 60 ls (.int (-6) :: st) H Q := w_con (show decode kb6 58 = .ok (.bipush (-6), 2) from by decide +kernel) rfl (by decide)
theorem m6_60 : M6 60 ls (.int z :: st) H Q = Q (some (.int z)) H := w_iret (show decode kb6 60 = .ok (.ireturn, 1) from by decide +kernel) rfl
theorem m6_61 : M6 61 [.val (.ref r), l1, l2, l3] st H Q = M6 62 [.val (.ref r), l1, l2, l3] (.ref r :: st) H Q := w_x (show decode kb6 61 = .ok (.aload_n 0, 1) from by decide +kernel) rfl
theorem m6_62 : M6 62 [l0, .val (.int v), l2, l3] st H Q = M6 63 [l0, .val (.int v), l2, l3] (.int v :: st) H Q := w_x (show decode kb6 62 = .ok (.iload_n 1, 1) from by decide +kernel) rfl
theorem cr6_115 : vR tables_1 dn y6 115 = some (true, y9, prog_1_method_7_code, 3, none, 1, 41) := pR_of (cR_of (by decide +kernel) rc_9 dn_9 dn_6 (sig := ⟨[.int], none⟩) (by decide +kernel) (by decide +kernel) rfl rfl) (by decide +kernel) (by decide +kernel)
theorem m6_63 (a0 : Int32) : M6 63 ls [.int a0, .ref b] (put b pre s A post) Q = M9 0 [.val (.ref b), .val (.int a0), .unset] [] (put b pre s A post) (fun v H1 => M6 66 ls (v.toList ++ []) H1 Q) := w_virt (as := [.int a0]) (rest := []) (a := b) (show decode kb6 63 = .ok (.invokevirtual 115, 3) from by decide +kernel) cr6_115 put_o rfl rfl (Nat.le_of_ble_eq_true rfl) (by show 2 ≤ 3; omega) rfl
theorem m6_66 : M6 66 [.val (.ref r), l1, l2, l3] st H Q = M6 67 [.val (.ref r), l1, l2, l3] (.ref r :: st) H Q := w_x (show decode kb6 66 = .ok (.aload_n 0, 1) from by decide +kernel) rfl
theorem m6_67 : M6 67 [l0, .val (.int v), l2, l3] st H Q = M6 68 [l0, .val (.int v), l2, l3] (.int v :: st) H Q := w_x (show decode kb6 67 = .ok (.iload_n 1, 1) from by decide +kernel) rfl
theorem m6_68 : M6 68 ls st H Q = M6 69 ls (.int 1 :: st) H Q := w_con (show decode kb6 68 = .ok (.iconst 1, 1) from by decide +kernel) rfl (by decide)
theorem m6_69 : M6 69 ls (.int y :: .int x :: st) H Q = M6 70 ls (.int (x + y) :: st) H Q := w_x (show decode kb6 69 = .ok (.iadd, 1) from by decide +kernel) rfl
theorem cr6_119 : vR tables_1 dn y6 119 = some (true, y10, prog_1_method_11_code, 5, (some .int), 1, 0) := pR_of (cR_of (by decide +kernel) rc_10 dn_10 dn_6 (sig := ⟨[.int], some .int⟩) (by decide +kernel) (by decide +kernel) rfl rfl) (by decide +kernel) (by decide +kernel)
theorem m6_70 (a0 : Int32) : M6 70 ls [.int a0, .ref b] (put b pre s A post) Q = M10 0 [.val (.ref b), .val (.int a0), .unset, .unset, .unset] [] (put b pre s A post) (fun v H1 => M6 73 ls (v.toList ++ []) H1 Q) := w_virt (as := [.int a0]) (rest := []) (a := b) (show decode kb6 70 = .ok (.invokevirtual 119, 3) from by decide +kernel) cr6_119 put_o rfl rfl (Nat.le_of_ble_eq_true rfl) (by show 2 ≤ 5; omega) rfl
theorem m6_73u : M6 73 [l0, l1, l2, .unset] ((.int v) :: st) H Q = M6 74 [l0, l1, l2, .val (.int v)] st H Q := w_st (i := 3) (p := isI) (show decode kb6 73 = .ok (.istore_n 3, 1) from by decide +kernel) rfl rfl rfl rfl rfl rfl
theorem m6_74 : M6 74 [l0, l1, l2, .val (.int v)] st H Q = M6 75 [l0, l1, l2, .val (.int v)] (.int v :: st) H Q := w_x (show decode kb6 74 = .ok (.iload_n 3, 1) from by decide +kernel) rfl
theorem m6_75 : M6 75 ls (.int x :: st) H Q = if x < 0 then M6 91 ls st H Q else M6 78 ls st H Q := w_if (show decode kb6 75 = .ok (.ifCond .lt 16, 3) from by decide +kernel) (z_lt x) rfl
theorem m6_78 : M6 78 [.val (.ref r), l1, l2, l3] st H Q = M6 79 [.val (.ref r), l1, l2, l3] (.ref r :: st) H Q := w_x (show decode kb6 78 = .ok (.aload_n 0, 1) from by decide +kernel) rfl
theorem m6_79 : M6 79 ls st H Q = M6 80 ls (.int 0 :: st) H Q := w_con (show decode kb6 79 = .ok (.iconst 0, 1) from by decide +kernel) rfl (by decide)
theorem m6_80 : M6 80 ls (.int v :: .ref b :: st) (put b pre s A post) Q = M6 83 ls st (put b pre (ou s 4 (nar .boolean v)) A post) Q := w_put (show decode kb6 80 = .ok (.putfield 78, 3) from by decide +kernel) pf6_78 put_o (Nat.zero_le _) (by show 22 < 31; omega) rfl put_s4
theorem m6_83 : M6 83 [.val (.ref r), l1, l2, l3] st H Q = M6 84 [.val (.ref r), l1, l2, l3] (.ref r :: st) H Q := w_x (show decode kb6 83 = .ok (.aload_n 0, 1) from by decide +kernel) rfl
theorem m6_84 : M6 84 [l0, l1, l2, .val (.int v)] st H Q = M6 85 [l0, l1, l2, .val (.int v)] (.int v :: st) H Q := w_x (show decode kb6 84 = .ok (.iload_n 3, 1) from by decide +kernel) rfl
theorem m6_85 : M6 85 ls (.int v :: .ref b :: st) (put b pre s A post) Q = M6 88 ls st (put b pre (ou s 3 v) A post) Q := w_put (show decode kb6 85 = .ok (.putfield 82, 3) from by decide +kernel) pf6_82 put_o (Nat.zero_le _) (by show 23 < 31; omega) rfl put_s3
theorem m6_88 : M6 88 ls st H Q = M6 90 ls (.int (-7) :: st) H Q := w_con (show decode kb6 88 = .ok (.bipush (-7), 2) from by decide +kernel) rfl (by decide)
theorem m6_90 : M6 90 ls (.int z :: st) H Q = Q (some (.int z)) H := w_iret (show decode kb6 90 = .ok (.ireturn, 1) from by decide +kernel) rfl
theorem m6_91 : M6 91 [.val (.ref r), l1, l2, l3] st H Q = M6 92 [.val (.ref r), l1, l2, l3] (.ref r :: st) H Q := w_x (show decode kb6 91 = .ok (.aload_n 0, 1) from by decide +kernel) rfl
theorem m6_92 : M6 92 [l0, .val (.int v), l2, l3] st H Q = M6 93 [l0, .val (.int v), l2, l3] (.int v :: st) H Q := w_x (show decode kb6 92 = .ok (.iload_n 1, 1) from by decide +kernel) rfl
theorem m6_93 : M6 93 ls st H Q = M6 94 ls (.int 1 :: st) H Q := w_con (show decode kb6 93 = .ok (.iconst 1, 1) from by decide +kernel) rfl (by decide)
theorem m6_94 : M6 94 ls (.int y :: .int x :: st) H Q = M6 95 ls (.int (x + y) :: st) H Q := w_x (show decode kb6 94 = .ok (.iadd, 1) from by decide +kernel) rfl
theorem cr6_123 : vR tables_1 dn y6 123 = some (true, y15, prog_1_method_8_code, 3, none, 1, 41) := pR_of (cR_of (by decide +kernel) rc_15 dn_15 dn_6 (sig := ⟨[.int], none⟩) (by decide +kernel) (by decide +kernel) rfl rfl) (by decide +kernel) (by decide +kernel)
theorem m6_95 (a0 : Int32) : M6 95 ls [.int a0, .ref b] (put b pre s A post) Q = M15 0 [.val (.ref b), .val (.int a0), .unset] [] (put b pre s A post) (fun v H1 => M6 98 ls (v.toList ++ []) H1 Q) := w_virt (as := [.int a0]) (rest := []) (a := b) (show decode kb6 95 = .ok (.invokevirtual 123, 3) from by decide +kernel) cr6_123 put_o rfl rfl (Nat.le_of_ble_eq_true rfl) (by show 2 ≤ 3; omega) rfl
theorem m6_98 : M6 98 [.val (.ref r), l1, l2, l3] st H Q = M6 99 [.val (.ref r), l1, l2, l3] (.ref r :: st) H Q := w_x (show decode kb6 98 = .ok (.aload_n 0, 1) from by decide +kernel) rfl
theorem m6_99 : M6 99 [l0, .val (.int v), l2, l3] st H Q = M6 100 [l0, .val (.int v), l2, l3] (.int v :: st) H Q := w_x (show decode kb6 99 = .ok (.iload_n 1, 1) from by decide +kernel) rfl
theorem m6_100 : M6 100 ls st H Q = M6 101 ls (.int 1 :: st) H Q := w_con (show decode kb6 100 = .ok (.iconst 1, 1) from by decide +kernel) rfl (by decide)
theorem m6_101 : M6 101 ls (.int y :: .int x :: st) H Q = M6 102 ls (.int (x + y) :: st) H Q := w_x (show decode kb6 101 = .ok (.iadd, 1) from by decide +kernel) rfl
theorem pf6_75 : pfR tables_1 y6.cls y6.name 75 = some ("ResponseTimeGate", 21, .int) := by decide +kernel
theorem m6_102 : M6 102 ls (.int v :: .ref b :: st) (put b pre s A post) Q = M6 105 ls st (put b pre (ou s 1 v) A post) Q := w_put (show decode kb6 102 = .ok (.putfield 75, 3) from by decide +kernel) pf6_75 put_o (Nat.zero_le _) (by show 21 < 31; omega) rfl put_s1
theorem m6_105 : M6 105 [.val (.ref r), l1, l2, l3] st H Q = M6 106 [.val (.ref r), l1, l2, l3] (.ref r :: st) H Q := w_x (show decode kb6 105 = .ok (.aload_n 0, 1) from by decide +kernel) rfl
theorem m6_106 : M6 106 ls st H Q = M6 107 ls (.int 0 :: st) H Q := w_con (show decode kb6 106 = .ok (.iconst 0, 1) from by decide +kernel) rfl (by decide)
theorem m6_107 : M6 107 ls (.int v :: .ref b :: st) (put b pre s A post) Q = M6 110 ls st (put b pre (ou s 4 (nar .boolean v)) A post) Q := w_put (show decode kb6 107 = .ok (.putfield 78, 3) from by decide +kernel) pf6_78 put_o (Nat.zero_le _) (by show 22 < 31; omega) rfl put_s4
theorem m6_110 : M6 110 [.val (.ref r), l1, l2, l3] st H Q = M6 111 [.val (.ref r), l1, l2, l3] (.ref r :: st) H Q := w_x (show decode kb6 110 = .ok (.aload_n 0, 1) from by decide +kernel) rfl
theorem m6_111 : M6 111 [l0, l1, .val (.int v), l3] st H Q = M6 112 [l0, l1, .val (.int v), l3] (.int v :: st) H Q := w_x (show decode kb6 111 = .ok (.iload_n 2, 1) from by decide +kernel) rfl
theorem pf6_85 : pfR tables_1 y6.cls y6.name 85 = some ("ResponseTimeGate", 24, .int) := by decide +kernel
theorem m6_112 : M6 112 ls (.int v :: .ref b :: st) (put b pre s A post) Q = M6 115 ls st (put b pre (ou s 2 v) A post) Q := w_put (show decode kb6 112 = .ok (.putfield 85, 3) from by decide +kernel) pf6_85 put_o (Nat.zero_le _) (by show 24 < 31; omega) rfl put_s2
theorem m6_115 : M6 115 [.val (.ref r), l1, l2, l3] st H Q = M6 116 [.val (.ref r), l1, l2, l3] (.ref r :: st) H Q := w_x (show decode kb6 115 = .ok (.aload_n 0, 1) from by decide +kernel) rfl
theorem m6_116 : M6 116 ls st H Q = M6 117 ls (.int (-1) :: st) H Q := w_con (show decode kb6 116 = .ok (.iconst (-1), 1) from by decide +kernel) rfl (by decide)
theorem m6_117 : M6 117 ls (.int v :: .ref b :: st) (put b pre s A post) Q = M6 120 ls st (put b pre (ou s 3 v) A post) Q := w_put (show decode kb6 117 = .ok (.putfield 82, 3) from by decide +kernel) pf6_82 put_o (Nat.zero_le _) (by show 23 < 31; omega) rfl put_s3
theorem m6_120 : M6 120 [.val (.ref r), l1, l2, l3] st H Q = M6 121 [.val (.ref r), l1, l2, l3] (.ref r :: st) H Q := w_x (show decode kb6 120 = .ok (.aload_n 0, 1) from by decide +kernel) rfl
theorem cr6_88 : vR tables_1 dn y6 88 = some (true, y1, prog_1_method_23_code, 2, none, 0, 42) := pR_of (cR_of (by decide +kernel) rc_1 dn_1 dn_6 (sig := ⟨[], none⟩) (by decide +kernel) (by decide +kernel) rfl rfl) (by decide +kernel) (by decide +kernel)
theorem m6_121 : M6 121 ls [.ref b] (put b pre s A post) Q = M1 0 [.val (.ref b), .unset] [] (put b pre s A post) (fun v H1 => M6 124 ls (v.toList ++ []) H1 Q) := w_virt (as := []) (rest := []) (a := b) (show decode kb6 121 = .ok (.invokevirtual 88, 3) from by decide +kernel) cr6_88 put_o rfl rfl (Nat.le_of_ble_eq_true rfl) (by show 1 ≤ 2; omega) rfl
theorem m6_124 : M6 124 [l0, .val (.int v), l2, l3] st H Q = M6 125 [l0, .val (.int v), l2, l3] (.int v :: st) H Q := w_x (show decode kb6 124 = .ok (.iload_n 1, 1) from by decide +kernel) rfl
theorem m6_125 : M6 125 ls (.int z :: st) H Q = Q (some (.int z)) H := w_iret (show decode kb6 125 = .ok (.ireturn, 1) from by decide +kernel) rfl
theorem m7_0 : M7 0 [l0, .val (.int v), l2, l3] st H Q = M7 1 [l0, .val (.int v), l2, l3] (.int v :: st) H Q := w_x (show decode kb7 0 = .ok (.iload_n 1, 1) from by decide +kernel) rfl
theorem m7_1 : M7 1 ls st H Q = M7 2 ls (.int 1 :: st) H Q := w_con (show decode kb7 1 = .ok (.iconst 1, 1) from by decide +kernel) rfl (by decide)
theorem m7_2 : M7 2 ls (.int y :: .int x :: st) H Q = if x < y then M7 10 ls st H Q else M7 5 ls st H Q := w_icmp (show decode kb7 2 = .ok (.if_icmp .lt 8, 3) from by decide +kernel) (i_lt x y) rfl
theorem m7_5 : M7 5 [l0, l1, .val (.int v), l3] st H Q = M7 6 [l0, l1, .val (.int v), l3] (.int v :: st) H Q := w_x (show decode kb7 5 = .ok (.iload_n 2, 1) from by decide +kernel) rfl
theorem m7_6 : M7 6 ls st H Q = M7 7 ls (.int 1 :: st) H Q := w_con (show decode kb7 6 = .ok (.iconst 1, 1) from by decide +kernel) rfl (by decide)
theorem m7_7 : M7 7 ls (.int y :: .int x :: st) H Q = if x < y then M7 10 ls st H Q else M7 14 ls st H Q := w_icmpN (show decode kb7 7 = .ok (.if_icmp .ge 7, 3) from by decide +kernel) (i_ge x y) rfl
theorem m7_10 : M7 10 ls st H Q = M7 13 ls (.int 841 :: st) H Q := w_con (show decode kb7 10 = .ok (.sipush 841, 3) from by decide +kernel) rfl (by decide)
theorem m7_13 : M7 13 ls (.int z :: st) H Q = Q (some (.int z)) H := w_iret (show decode kb7 13 = .ok (.ireturn, 1) from by decide +kernel) rfl
theorem m7_14 : M7 14 [.val (.ref r), l1, l2, l3] st H Q = M7 15 [.val (.ref r), l1, l2, l3] (.ref r :: st) H Q := w_x (show decode kb7 14 = .ok (.aload_n 0, 1) from by decide +kernel) rfl
theorem m7_15 : M7 15 [l0, .val (.int v), l2, l3] st H Q = M7 16 [l0, .val (.int v), l2, l3] (.int v :: st) H Q := w_x (show decode kb7 15 = .ok (.iload_n 1, 1) from by decide +kernel) rfl
theorem m7_16 : M7 16 [l0, l1, .val (.int v), l3] st H Q = M7 17 [l0, l1, .val (.int v), l3] (.int v :: st) H Q := w_x (show decode kb7 16 = .ok (.iload_n 2, 1) from by decide +kernel) rfl
theorem cr7_126 : vR tables_1 dn y7 126 = some (true, y8, prog_1_method_9_code, 7, (some .int), 2, 0) := pR_of (cR_of (by decide +kernel) rc_8 dn_8 dn_7 (sig := ⟨[.int, .int], some .int⟩) (by decide +kernel) (by decide +kernel) rfl rfl) (by decide +kernel) (by decide +kernel)
theorem m7_17 (a0 : Int32) (a1 : Int32) : M7 17 ls [.int a1, .int a0, .ref b] (put b pre s A post) Q = M8 0 [.val (.ref b), .val (.int a0), .val (.int a1), .unset, .unset, .unset, .unset] [] (put b pre s A post) (fun v H1 => M7 20 ls (v.toList ++ []) H1 Q) := w_virt (as := [.int a1, .int a0]) (rest := []) (a := b) (show decode kb7 17 = .ok (.invokevirtual 126, 3) from by decide +kernel) cr7_126 put_o rfl rfl (Nat.le_of_ble_eq_true rfl) (by show 3 ≤ 7; omega) rfl
theorem m7_20u : M7 20 [l0, l1, l2, .unset] ((.int v) :: st) H Q = M7 21 [l0, l1, l2, .val (.int v)] st H Q := w_st (i := 3) (p := isI) (show decode kb7 20 = .ok (.istore_n 3, 1) from by decide +kernel) rfl rfl rfl rfl rfl rfl
theorem m7_21 : M7 21 [l0, l1, l2, .val (.int v)] st H Q = M7 22 [l0, l1, l2, .val (.int v)] (.int v :: st) H Q := w_x (show decode kb7 21 = .ok (.iload_n 3, 1) from by decide +kernel) rfl
theorem m7_22 : M7 22 ls st H Q = M7 23 ls (.int 1 :: st) H Q := w_con (show decode kb7 22 = .ok (.iconst 1, 1) from by decide +kernel) rfl (by decide)
theorem m7_23 : M7 23 ls (.int y :: .int x :: st) H Q = if x < y then M7 26 ls st H Q else M7 30 ls st H Q := w_icmpN (show decode kb7 23 = .ok (.if_icmp .ge 7, 3) from by decide +kernel) (i_ge x y) rfl
theorem m7_26 : M7 26 ls st H Q = M7 29 ls (.int 841 :: st) H Q := w_con (show decode kb7 26 = .ok (.sipush 841, 3) from by decide +kernel) rfl (by decide)
theorem m7_29 : M7 29 ls (.int z :: st) H Q = Q (some (.int z)) H := w_iret (show decode kb7 29 = .ok (.ireturn, 1) from by decide +kernel) rfl
theorem m7_30 : M7 30 [l0, .val (.int v), l2, l3] st H Q = M7 31 [l0, .val (.int v), l2, l3] (.int v :: st) H Q := w_x (show decode kb7 30 = .ok (.iload_n 1, 1) from by decide +kernel) rfl
theorem m7_31 : M7 31 [l0, l1, l2, .val (.int v)] st H Q = M7 32 [l0, l1, l2, .val (.int v)] (.int v :: st) H Q := w_x (show decode kb7 31 = .ok (.iload_n 3, 1) from by decide +kernel) rfl
theorem m7_32 : M7 32 ls (.int y :: .int x :: st) H Q = (y ≠ 0 ∧ M7 33 ls (.int (x / y) :: st) H Q) := w_div (f := fun x y => x / y) (show decode kb7 32 = .ok (.idiv, 1) from by decide +kernel) (fun _ => rfl) rfl rfl
theorem m7_33 : M7 33 [l0, l1, .val (.int v), l3] st H Q = M7 34 [l0, l1, .val (.int v), l3] (.int v :: st) H Q := w_x (show decode kb7 33 = .ok (.iload_n 2, 1) from by decide +kernel) rfl
theorem m7_34 : M7 34 ls (.int y :: .int x :: st) H Q = M7 35 ls (.int (x * y) :: st) H Q := w_x (show decode kb7 34 = .ok (.imul, 1) from by decide +kernel) rfl
theorem m7_35 : M7 35 ls (.int z :: st) H Q = Q (some (.int z)) H := w_iret (show decode kb7 35 = .ok (.ireturn, 1) from by decide +kernel) rfl
theorem m8_0 : M8 0 [l0, .val (.int v), l2, l3, l4, l5, l6] st H Q = M8 1 [l0, .val (.int v), l2, l3, l4, l5, l6] (.int v :: st) H Q := w_x (show decode kb8 0 = .ok (.iload_n 1, 1) from by decide +kernel) rfl
theorem m8_1u : M8 1 [l0, l1, l2, .unset, l4, l5, l6] ((.int v) :: st) H Q = M8 2 [l0, l1, l2, .val (.int v), l4, l5, l6] st H Q := w_st (i := 3) (p := isI) (show decode kb8 1 = .ok (.istore_n 3, 1) from by decide +kernel) rfl rfl rfl rfl rfl rfl
theorem m8_2 : M8 2 [l0, l1, .val (.int v), l3, l4, l5, l6] st H Q = M8 3 [l0, l1, .val (.int v), l3, l4, l5, l6] (.int v :: st) H Q := w_x (show decode kb8 2 = .ok (.iload_n 2, 1) from by decide +kernel) rfl
theorem m8_3u : M8 3 [l0, l1, l2, l3, .unset, l5, l6] ((.int v) :: st) H Q = M8 5 [l0, l1, l2, l3, .val (.int v), l5, l6] st H Q := w_st (i := 4) (p := isI) (show decode kb8 3 = .ok (.istore 4, 2) from by decide +kernel) rfl rfl rfl rfl rfl rfl
theorem m8_5 : M8 5 ls st H Q = M8 6 ls (.int 0 :: st) H Q := w_con (show decode kb8 5 = .ok (.iconst 0, 1) from by decide +kernel) rfl (by decide)
theorem m8_6u : M8 6 [l0, l1, l2, l3, l4, .unset, l6] ((.int v) :: st) H Q = M8 8 [l0, l1, l2, l3, l4, .val (.int v), l6] st H Q := w_st (i := 5) (p := isI) (show decode kb8 6 = .ok (.istore 5, 2) from by decide +kernel) rfl rfl rfl rfl rfl rfl
theorem m8_8 : M8 8 [l0, l1, l2, l3, l4, .val (.int v), l6] st H Q = M8 10 [l0, l1, l2, l3, l4, .val (.int v), l6] (.int v :: st) H Q := w_x (show decode kb8 8 = .ok (.iload 5, 2) from by decide +kernel) rfl
theorem m8_10 : M8 10 ls st H Q = M8 12 ls (.int 64 :: st) H Q := w_con (show decode kb8 10 = .ok (.bipush 64, 2) from by decide +kernel) rfl (by decide)
theorem m8_12 : M8 12 ls (.int y :: .int x :: st) H Q = if x < y then M8 15 ls st H Q else M8 42 ls st H Q := w_icmpN (show decode kb8 12 = .ok (.if_icmp .ge 30, 3) from by decide +kernel) (i_ge x y) rfl
theorem m8_15 : M8 15 [l0, l1, l2, l3, .val (.int v), l5, l6] st H Q = M8 17 [l0, l1, l2, l3, .val (.int v), l5, l6] (.int v :: st) H Q := w_x (show decode kb8 15 = .ok (.iload 4, 2) from by decide +kernel) rfl
theorem m8_17 : M8 17 ls (.int x :: st) H Q = if x = 0 then M8 20 ls st H Q else M8 23 ls st H Q := w_ifN (show decode kb8 17 = .ok (.ifCond .ne 6, 3) from by decide +kernel) (z_ne x) rfl
theorem m8_20 : M8 20 ls st H Q = M8 42 ls st H Q := w_x (show decode kb8 20 = .ok (.goto 22, 3) from by decide +kernel) rfl
theorem m8_23 : M8 23 [l0, l1, l2, .val (.int v), l4, l5, l6] st H Q = M8 24 [l0, l1, l2, .val (.int v), l4, l5, l6] (.int v :: st) H Q := w_x (show decode kb8 23 = .ok (.iload_n 3, 1) from by decide +kernel) rfl
theorem m8_24 : M8 24 [l0, l1, l2, l3, .val (.int v), l5, l6] st H Q = M8 26 [l0, l1, l2, l3, .val (.int v), l5, l6] (.int v :: st) H Q := w_x (show decode kb8 24 = .ok (.iload 4, 2) from by decide +kernel) rfl
theorem m8_26 : M8 26 ls (.int y :: .int x :: st) H Q = (y ≠ 0 ∧ M8 27 ls (.int (x % y) :: st) H Q) := w_div (f := fun x y => x % y) (show decode kb8 26 = .ok (.irem, 1) from by decide +kernel) (fun _ => rfl) rfl rfl
theorem m8_27u : M8 27 [l0, l1, l2, l3, l4, l5, .unset] ((.int v) :: st) H Q = M8 29 [l0, l1, l2, l3, l4, l5, .val (.int v)] st H Q := w_st (i := 6) (p := isI) (show decode kb8 27 = .ok (.istore 6, 2) from by decide +kernel) rfl rfl rfl rfl rfl rfl
theorem m8_27i : M8 27 [l0, l1, l2, l3, l4, l5, .val (.int z)] ((.int v) :: st) H Q = M8 29 [l0, l1, l2, l3, l4, l5, .val (.int v)] st H Q := w_st (i := 6) (p := isI) (show decode kb8 27 = .ok (.istore 6, 2) from by decide +kernel) rfl rfl rfl rfl rfl rfl
theorem m8_27r : M8 27 [l0, l1, l2, l3, l4, l5, .val (.ref q)] ((.int v) :: st) H Q = M8 29 [l0, l1, l2, l3, l4, l5, .val (.int v)] st H Q := w_st (i := 6) (p := isI) (show decode kb8 27 = .ok (.istore 6, 2) from by decide +kernel) rfl rfl rfl rfl rfl rfl
theorem m8_29 : M8 29 [l0, l1, l2, l3, .val (.int v), l5, l6] st H Q = M8 31 [l0, l1, l2, l3, .val (.int v), l5, l6] (.int v :: st) H Q := w_x (show decode kb8 29 = .ok (.iload 4, 2) from by decide +kernel) rfl
theorem m8_31i : M8 31 [l0, l1, l2, .val (.int z), l4, l5, l6] ((.int v) :: st) H Q = M8 32 [l0, l1, l2, .val (.int v), l4, l5, l6] st H Q := w_st (i := 3) (p := isI) (show decode kb8 31 = .ok (.istore_n 3, 1) from by decide +kernel) rfl rfl rfl rfl rfl rfl
theorem m8_32 : M8 32 [l0, l1, l2, l3, l4, l5, .val (.int v)] st H Q = M8 34 [l0, l1, l2, l3, l4, l5, .val (.int v)] (.int v :: st) H Q := w_x (show decode kb8 32 = .ok (.iload 6, 2) from by decide +kernel) rfl
theorem m8_34i : M8 34 [l0, l1, l2, l3, .val (.int z), l5, l6] ((.int v) :: st) H Q = M8 36 [l0, l1, l2, l3, .val (.int v), l5, l6] st H Q := w_st (i := 4) (p := isI) (show decode kb8 34 = .ok (.istore 4, 2) from by decide +kernel) rfl rfl rfl rfl rfl rfl
theorem m8_36 : M8 36 [l0, l1, l2, l3, l4, .val (.int v), l6] st H Q = M8 39 [l0, l1, l2, l3, l4, .val (.int (v + 1)), l6] st H Q := w_iinc (show decode kb8 36 = .ok (.iinc 5 1, 3) from by decide +kernel) rfl (by decide) rfl
theorem m8_39 : M8 39 ls st H Q = M8 8 ls st H Q := w_x (show decode kb8 39 = .ok (.goto (-31), 3) from by decide +kernel) rfl
theorem m8_42 : M8 42 [l0, l1, l2, .val (.int v), l4, l5, l6] st H Q = M8 43 [l0, l1, l2, .val (.int v), l4, l5, l6] (.int v :: st) H Q := w_x (show decode kb8 42 = .ok (.iload_n 3, 1) from by decide +kernel) rfl
theorem m8_43 : M8 43 ls (.int z :: st) H Q = Q (some (.int z)) H := w_iret (show decode kb8 43 = .ok (.ireturn, 1) from by decide +kernel) rfl
theorem m9_0 : M9 0 [.val (.ref r), l1, l2] st H Q = M9 1 [.val (.ref r), l1, l2] (.ref r :: st) H Q := w_x (show decode kb9 0 = .ok (.aload_n 0, 1) from by decide +kernel) rfl
theorem m9_1 : M9 1 ls (.ref b :: st) (put b pre s A post) Q = M9 4 ls (.ref (b + 1) :: st) (put b pre s A post) Q := w_get (show decode kb9 1 = .ok (.getfield 7, 3) from by decide +kernel) gf_7 put_o rfl
theorem m9_4 : M9 4 [l0, .val (.int v), l2] st H Q = M9 5 [l0, .val (.int v), l2] (.int v :: st) H Q := w_x (show decode kb9 4 = .ok (.iload_n 1, 1) from by decide +kernel) rfl
theorem m9_5 : M9 5 [.val (.ref r), l1, l2] st H Q = M9 6 [.val (.ref r), l1, l2] (.ref r :: st) H Q := w_x (show decode kb9 5 = .ok (.aload_n 0, 1) from by decide +kernel) rfl
theorem m9_6 : M9 6 ls (.ref b :: st) (put b pre s A post) Q = M9 9 ls (.int (s 5) :: st) (put b pre s A post) Q := w_get (show decode kb9 6 = .ok (.getfield 95, 3) from by decide +kernel) gf_95 put_o rfl
theorem m9_9  : M9 9 ls (.int v :: .int j :: .ref (b + 1) :: st) (put b pre s A post) Q = (inB j (A 0) ∧ M9 10 ls st (put b pre s (ou A 0 (setA (A 0) j v)) post) Q) := w_ist (show decode kb9 9 = .ok (.iastore, 1) from by decide +kernel) rfl put_a0 (Nat.zero_le _) rfl put_w0
theorem m9_10 : M9 10 [.val (.ref r), l1, l2] st H Q = M9 11 [.val (.ref r), l1, l2] (.ref r :: st) H Q := w_x (show decode kb9 10 = .ok (.aload_n 0, 1) from by decide +kernel) rfl
theorem m9_11 : M9 11 ls (.ref b :: st) (put b pre s A post) Q = M9 14 ls (.ref (b + 2) :: st) (put b pre s A post) Q := w_get (show decode kb9 11 = .ok (.getfield 13, 3) from by decide +kernel) gf_13 put_o rfl
theorem m9_14 : M9 14 [l0, .val (.int v), l2] st H Q = M9 15 [l0, .val (.int v), l2] (.int v :: st) H Q := w_x (show decode kb9 14 = .ok (.iload_n 1, 1) from by decide +kernel) rfl
theorem m9_15 : M9 15 [.val (.ref r), l1, l2] st H Q = M9 16 [.val (.ref r), l1, l2] (.ref r :: st) H Q := w_x (show decode kb9 15 = .ok (.aload_n 0, 1) from by decide +kernel) rfl
theorem m9_16 : M9 16 ls (.ref b :: st) (put b pre s A post) Q = M9 19 ls (.int (s 6) :: st) (put b pre s A post) Q := w_get (show decode kb9 16 = .ok (.getfield 98, 3) from by decide +kernel) gf_98 put_o rfl
theorem m9_19  : M9 19 ls (.int v :: .int j :: .ref (b + 2) :: st) (put b pre s A post) Q = (inB j (A 1) ∧ M9 20 ls st (put b pre s (ou A 1 (setA (A 1) j v)) post) Q) := w_ist (show decode kb9 19 = .ok (.iastore, 1) from by decide +kernel) rfl put_a1 (Nat.zero_le _) rfl put_w1
theorem m9_20 : M9 20 [.val (.ref r), l1, l2] st H Q = M9 21 [.val (.ref r), l1, l2] (.ref r :: st) H Q := w_x (show decode kb9 20 = .ok (.aload_n 0, 1) from by decide +kernel) rfl
theorem m9_21 : M9 21 ls (.ref b :: st) (put b pre s A post) Q = M9 24 ls (.ref (b + 3) :: st) (put b pre s A post) Q := w_get (show decode kb9 21 = .ok (.getfield 16, 3) from by decide +kernel) gf_16 put_o rfl
theorem m9_24 : M9 24 [l0, .val (.int v), l2] st H Q = M9 25 [l0, .val (.int v), l2] (.int v :: st) H Q := w_x (show decode kb9 24 = .ok (.iload_n 1, 1) from by decide +kernel) rfl
theorem m9_25 : M9 25 [.val (.ref r), l1, l2] st H Q = M9 26 [.val (.ref r), l1, l2] (.ref r :: st) H Q := w_x (show decode kb9 25 = .ok (.aload_n 0, 1) from by decide +kernel) rfl
theorem m9_26 : M9 26 ls (.ref b :: st) (put b pre s A post) Q = M9 29 ls (.int (s 7) :: st) (put b pre s A post) Q := w_get (show decode kb9 26 = .ok (.getfield 101, 3) from by decide +kernel) gf_101 put_o rfl
theorem m9_29  : M9 29 ls (.int v :: .int j :: .ref (b + 3) :: st) (put b pre s A post) Q = (inB j (A 2) ∧ M9 30 ls st (put b pre s (ou A 2 (setA (A 2) j v)) post) Q) := w_ist (show decode kb9 29 = .ok (.iastore, 1) from by decide +kernel) rfl put_a2 (Nat.zero_le _) rfl put_w2
theorem m9_30 : M9 30 [.val (.ref r), l1, l2] st H Q = M9 31 [.val (.ref r), l1, l2] (.ref r :: st) H Q := w_x (show decode kb9 30 = .ok (.aload_n 0, 1) from by decide +kernel) rfl
theorem m9_31 : M9 31 ls (.ref b :: st) (put b pre s A post) Q = M9 34 ls (.ref (b + 4) :: st) (put b pre s A post) Q := w_get (show decode kb9 31 = .ok (.getfield 19, 3) from by decide +kernel) gf_19 put_o rfl
theorem m9_34 : M9 34 [l0, .val (.int v), l2] st H Q = M9 35 [l0, .val (.int v), l2] (.int v :: st) H Q := w_x (show decode kb9 34 = .ok (.iload_n 1, 1) from by decide +kernel) rfl
theorem m9_35 : M9 35 [.val (.ref r), l1, l2] st H Q = M9 36 [.val (.ref r), l1, l2] (.ref r :: st) H Q := w_x (show decode kb9 35 = .ok (.aload_n 0, 1) from by decide +kernel) rfl
theorem m9_36 : M9 36 ls (.ref b :: st) (put b pre s A post) Q = M9 39 ls (.int (s 8) :: st) (put b pre s A post) Q := w_get (show decode kb9 36 = .ok (.getfield 104, 3) from by decide +kernel) gf_104 put_o rfl
theorem m9_39  : M9 39 ls (.int v :: .int j :: .ref (b + 4) :: st) (put b pre s A post) Q = (inB j (A 3) ∧ M9 40 ls st (put b pre s (ou A 3 (setA (A 3) j v)) post) Q) := w_ist (show decode kb9 39 = .ok (.iastore, 1) from by decide +kernel) rfl put_a3 (Nat.zero_le _) rfl put_w3
theorem m9_40 : M9 40 ls st H Q = M9 41 ls (.int 0 :: st) H Q := w_con (show decode kb9 40 = .ok (.iconst 0, 1) from by decide +kernel) rfl (by decide)
theorem m9_41u : M9 41 [l0, l1, .unset] ((.int v) :: st) H Q = M9 42 [l0, l1, .val (.int v)] st H Q := w_st (i := 2) (p := isI) (show decode kb9 41 = .ok (.istore_n 2, 1) from by decide +kernel) rfl rfl rfl rfl rfl rfl
theorem m9_42 : M9 42 [l0, l1, .val (.int v)] st H Q = M9 43 [l0, l1, .val (.int v)] (.int v :: st) H Q := w_x (show decode kb9 42 = .ok (.iload_n 2, 1) from by decide +kernel) rfl
theorem m9_43 : M9 43 ls st H Q = M9 44 ls (.int 4 :: st) H Q := w_con (show decode kb9 43 = .ok (.iconst 4, 1) from by decide +kernel) rfl (by decide)
theorem m9_44 : M9 44 ls (.int y :: .int x :: st) H Q = if x < y then M9 47 ls st H Q else M9 85 ls st H Q := w_icmpN (show decode kb9 44 = .ok (.if_icmp .ge 41, 3) from by decide +kernel) (i_ge x y) rfl
theorem m9_47 : M9 47 [.val (.ref r), l1, l2] st H Q = M9 48 [.val (.ref r), l1, l2] (.ref r :: st) H Q := w_x (show decode kb9 47 = .ok (.aload_n 0, 1) from by decide +kernel) rfl
theorem m9_48 : M9 48 ls (.ref b :: st) (put b pre s A post) Q = M9 51 ls (.ref (b + 5) :: st) (put b pre s A post) Q := w_get (show decode kb9 48 = .ok (.getfield 22, 3) from by decide +kernel) gf_22 put_o rfl
theorem m9_51 : M9 51 [l0, .val (.int v), l2] st H Q = M9 52 [l0, .val (.int v), l2] (.int v :: st) H Q := w_x (show decode kb9 51 = .ok (.iload_n 1, 1) from by decide +kernel) rfl
theorem m9_52 : M9 52 ls st H Q = M9 53 ls (.int 4 :: st) H Q := w_con (show decode kb9 52 = .ok (.iconst 4, 1) from by decide +kernel) rfl (by decide)
theorem m9_53 : M9 53 ls (.int y :: .int x :: st) H Q = M9 54 ls (.int (x * y) :: st) H Q := w_x (show decode kb9 53 = .ok (.imul, 1) from by decide +kernel) rfl
theorem m9_54 : M9 54 [l0, l1, .val (.int v)] st H Q = M9 55 [l0, l1, .val (.int v)] (.int v :: st) H Q := w_x (show decode kb9 54 = .ok (.iload_n 2, 1) from by decide +kernel) rfl
theorem m9_55 : M9 55 ls (.int y :: .int x :: st) H Q = M9 56 ls (.int (x + y) :: st) H Q := w_x (show decode kb9 55 = .ok (.iadd, 1) from by decide +kernel) rfl
theorem m9_56 : M9 56 [.val (.ref r), l1, l2] st H Q = M9 57 [.val (.ref r), l1, l2] (.ref r :: st) H Q := w_x (show decode kb9 56 = .ok (.aload_n 0, 1) from by decide +kernel) rfl
theorem m9_57 : M9 57 ls (.ref b :: st) (put b pre s A post) Q = M9 60 ls (.ref (b + 10) :: st) (put b pre s A post) Q := w_get (show decode kb9 57 = .ok (.getfield 37, 3) from by decide +kernel) gf_37 put_o rfl
theorem m9_60 : M9 60 [l0, l1, .val (.int v)] st H Q = M9 61 [l0, l1, .val (.int v)] (.int v :: st) H Q := w_x (show decode kb9 60 = .ok (.iload_n 2, 1) from by decide +kernel) rfl
theorem m9_61  : M9 61 ls (.int j :: .ref (b + 10) :: st) (put b pre s A post) Q = (inB j (A 9) ∧ M9 62 ls (.int (getA (A 9) j) :: st) (put b pre s A post) Q) := w_ild (show decode kb9 61 = .ok (.iaload, 1) from by decide +kernel) rfl put_a9
theorem m9_62  : M9 62 ls (.int v :: .int j :: .ref (b + 5) :: st) (put b pre s A post) Q = (inB j (A 4) ∧ M9 63 ls st (put b pre s (ou A 4 (setA (A 4) j v)) post) Q) := w_ist (show decode kb9 62 = .ok (.iastore, 1) from by decide +kernel) rfl put_a4 (Nat.zero_le _) rfl put_w4
theorem m9_63 : M9 63 [.val (.ref r), l1, l2] st H Q = M9 64 [.val (.ref r), l1, l2] (.ref r :: st) H Q := w_x (show decode kb9 63 = .ok (.aload_n 0, 1) from by decide +kernel) rfl
theorem m9_64 : M9 64 ls (.ref b :: st) (put b pre s A post) Q = M9 67 ls (.ref (b + 6) :: st) (put b pre s A post) Q := w_get (show decode kb9 64 = .ok (.getfield 25, 3) from by decide +kernel) gf_25 put_o rfl
theorem m9_67 : M9 67 [l0, .val (.int v), l2] st H Q = M9 68 [l0, .val (.int v), l2] (.int v :: st) H Q := w_x (show decode kb9 67 = .ok (.iload_n 1, 1) from by decide +kernel) rfl
theorem m9_68 : M9 68 ls st H Q = M9 69 ls (.int 4 :: st) H Q := w_con (show decode kb9 68 = .ok (.iconst 4, 1) from by decide +kernel) rfl (by decide)
theorem m9_69 : M9 69 ls (.int y :: .int x :: st) H Q = M9 70 ls (.int (x * y) :: st) H Q := w_x (show decode kb9 69 = .ok (.imul, 1) from by decide +kernel) rfl
theorem m9_70 : M9 70 [l0, l1, .val (.int v)] st H Q = M9 71 [l0, l1, .val (.int v)] (.int v :: st) H Q := w_x (show decode kb9 70 = .ok (.iload_n 2, 1) from by decide +kernel) rfl
theorem m9_71 : M9 71 ls (.int y :: .int x :: st) H Q = M9 72 ls (.int (x + y) :: st) H Q := w_x (show decode kb9 71 = .ok (.iadd, 1) from by decide +kernel) rfl
theorem m9_72 : M9 72 [.val (.ref r), l1, l2] st H Q = M9 73 [.val (.ref r), l1, l2] (.ref r :: st) H Q := w_x (show decode kb9 72 = .ok (.aload_n 0, 1) from by decide +kernel) rfl
theorem m9_73 : M9 73 ls (.ref b :: st) (put b pre s A post) Q = M9 76 ls (.ref (b + 11) :: st) (put b pre s A post) Q := w_get (show decode kb9 73 = .ok (.getfield 40, 3) from by decide +kernel) gf_40 put_o rfl
theorem m9_76 : M9 76 [l0, l1, .val (.int v)] st H Q = M9 77 [l0, l1, .val (.int v)] (.int v :: st) H Q := w_x (show decode kb9 76 = .ok (.iload_n 2, 1) from by decide +kernel) rfl
theorem m9_77  : M9 77 ls (.int j :: .ref (b + 11) :: st) (put b pre s A post) Q = (inB j (A 10) ∧ M9 78 ls (.int (getA (A 10) j) :: st) (put b pre s A post) Q) := w_ild (show decode kb9 77 = .ok (.iaload, 1) from by decide +kernel) rfl put_a10
theorem m9_78  : M9 78 ls (.int v :: .int j :: .ref (b + 6) :: st) (put b pre s A post) Q = (inB j (A 5) ∧ M9 79 ls st (put b pre s (ou A 5 (setA (A 5) j v)) post) Q) := w_ist (show decode kb9 78 = .ok (.iastore, 1) from by decide +kernel) rfl put_a5 (Nat.zero_le _) rfl put_w5
theorem m9_79 : M9 79 [l0, l1, .val (.int v)] st H Q = M9 82 [l0, l1, .val (.int (v + 1))] st H Q := w_iinc (show decode kb9 79 = .ok (.iinc 2 1, 3) from by decide +kernel) rfl (by decide) rfl
theorem m9_82 : M9 82 ls st H Q = M9 42 ls st H Q := w_x (show decode kb9 82 = .ok (.goto (-40), 3) from by decide +kernel) rfl
theorem m9_85 : M9 85 ls [] H Q = Q none H := w_vret (show decode kb9 85 = .ok (.return_, 1) from by decide +kernel) rfl
theorem m10_0 : M10 0 [.val (.ref r), l1, l2, l3, l4] st H Q = M10 1 [.val (.ref r), l1, l2, l3, l4] (.ref r :: st) H Q := w_x (show decode kb10 0 = .ok (.aload_n 0, 1) from by decide +kernel) rfl
theorem m10_1 : M10 1 [l0, .val (.int v), l2, l3, l4] st H Q = M10 2 [l0, .val (.int v), l2, l3, l4] (.int v :: st) H Q := w_x (show decode kb10 1 = .ok (.iload_n 1, 1) from by decide +kernel) rfl
theorem cr10_129 : vR tables_1 dn y10 129 = some (true, y11, prog_1_method_12_code, 5, none, 1, 23) := pR_of (cR_of (by decide +kernel) rc_11 dn_11 dn_10 (sig := ⟨[.int], none⟩) (by decide +kernel) (by decide +kernel) rfl rfl) (by decide +kernel) (by decide +kernel)
theorem m10_2 (a0 : Int32) : M10 2 ls [.int a0, .ref b] (put b pre s A post) Q = M11 0 [.val (.ref b), .val (.int a0), .unset, .unset, .unset] [] (put b pre s A post) (fun v H1 => M10 5 ls (v.toList ++ []) H1 Q) := w_virt (as := [.int a0]) (rest := []) (a := b) (show decode kb10 2 = .ok (.invokevirtual 129, 3) from by decide +kernel) cr10_129 put_o rfl rfl (Nat.le_of_ble_eq_true rfl) (by show 2 ≤ 5; omega) rfl
theorem m10_5 : M10 5 ls st H Q = M10 6 ls (.int 0 :: st) H Q := w_con (show decode kb10 5 = .ok (.iconst 0, 1) from by decide +kernel) rfl (by decide)
theorem m10_6u : M10 6 [l0, l1, .unset, l3, l4] ((.int v) :: st) H Q = M10 7 [l0, l1, .val (.int v), l3, l4] st H Q := w_st (i := 2) (p := isI) (show decode kb10 6 = .ok (.istore_n 2, 1) from by decide +kernel) rfl rfl rfl rfl rfl rfl
theorem m10_7 : M10 7 [l0, l1, .val (.int v), l3, l4] st H Q = M10 8 [l0, l1, .val (.int v), l3, l4] (.int v :: st) H Q := w_x (show decode kb10 7 = .ok (.iload_n 2, 1) from by decide +kernel) rfl
theorem m10_8 : M10 8 [l0, .val (.int v), l2, l3, l4] st H Q = M10 9 [l0, .val (.int v), l2, l3, l4] (.int v :: st) H Q := w_x (show decode kb10 8 = .ok (.iload_n 1, 1) from by decide +kernel) rfl
theorem m10_9 : M10 9 ls (.int y :: .int x :: st) H Q = if x < y then M10 12 ls st H Q else M10 56 ls st H Q := w_icmpN (show decode kb10 9 = .ok (.if_icmp .ge 47, 3) from by decide +kernel) (i_ge x y) rfl
theorem m10_12 : M10 12 [.val (.ref r), l1, l2, l3, l4] st H Q = M10 13 [.val (.ref r), l1, l2, l3, l4] (.ref r :: st) H Q := w_x (show decode kb10 12 = .ok (.aload_n 0, 1) from by decide +kernel) rfl
theorem m10_13 : M10 13 [l0, l1, .val (.int v), l3, l4] st H Q = M10 14 [l0, l1, .val (.int v), l3, l4] (.int v :: st) H Q := w_x (show decode kb10 13 = .ok (.iload_n 2, 1) from by decide +kernel) rfl
theorem m10_14 : M10 14 [l0, .val (.int v), l2, l3, l4] st H Q = M10 15 [l0, .val (.int v), l2, l3, l4] (.int v :: st) H Q := w_x (show decode kb10 14 = .ok (.iload_n 1, 1) from by decide +kernel) rfl
theorem cr10_132 : vR tables_1 dn y10 132 = some (true, y12, prog_1_method_13_code, 8, (some .int), 2, 20) := pR_of (cR_of (by decide +kernel) rc_12 dn_12 dn_10 (sig := ⟨[.int, .int], some .int⟩) (by decide +kernel) (by decide +kernel) rfl rfl) (by decide +kernel) (by decide +kernel)
theorem m10_15 (a0 : Int32) (a1 : Int32) : M10 15 ls [.int a1, .int a0, .ref b] (put b pre s A post) Q = M12 0 [.val (.ref b), .val (.int a0), .val (.int a1), .unset, .unset, .unset, .unset, .unset] [] (put b pre s A post) (fun v H1 => M10 18 ls (v.toList ++ []) H1 Q) := w_virt (as := [.int a1, .int a0]) (rest := []) (a := b) (show decode kb10 15 = .ok (.invokevirtual 132, 3) from by decide +kernel) cr10_132 put_o rfl rfl (Nat.le_of_ble_eq_true rfl) (by show 3 ≤ 8; omega) rfl
theorem m10_18u : M10 18 [l0, l1, l2, .unset, l4] ((.int v) :: st) H Q = M10 19 [l0, l1, l2, .val (.int v), l4] st H Q := w_st (i := 3) (p := isI) (show decode kb10 18 = .ok (.istore_n 3, 1) from by decide +kernel) rfl rfl rfl rfl rfl rfl
theorem m10_18i : M10 18 [l0, l1, l2, .val (.int z), l4] ((.int v) :: st) H Q = M10 19 [l0, l1, l2, .val (.int v), l4] st H Q := w_st (i := 3) (p := isI) (show decode kb10 18 = .ok (.istore_n 3, 1) from by decide +kernel) rfl rfl rfl rfl rfl rfl
theorem m10_18r : M10 18 [l0, l1, l2, .val (.ref q), l4] ((.int v) :: st) H Q = M10 19 [l0, l1, l2, .val (.int v), l4] st H Q := w_st (i := 3) (p := isI) (show decode kb10 18 = .ok (.istore_n 3, 1) from by decide +kernel) rfl rfl rfl rfl rfl rfl
theorem m10_19 : M10 19 [.val (.ref r), l1, l2, l3, l4] st H Q = M10 20 [.val (.ref r), l1, l2, l3, l4] (.ref r :: st) H Q := w_x (show decode kb10 19 = .ok (.aload_n 0, 1) from by decide +kernel) rfl
theorem m10_20 : M10 20 ls (.ref b :: st) (put b pre s A post) Q = M10 23 ls (.ref (b + 13) :: st) (put b pre s A post) Q := w_get (show decode kb10 20 = .ok (.getfield 46, 3) from by decide +kernel) gf_46 put_o rfl
theorem m10_23 : M10 23 [l0, l1, .val (.int v), l3, l4] st H Q = M10 24 [l0, l1, .val (.int v), l3, l4] (.int v :: st) H Q := w_x (show decode kb10 23 = .ok (.iload_n 2, 1) from by decide +kernel) rfl
theorem m10_24 : M10 24 [l0, l1, l2, .val (.int v), l4] st H Q = M10 25 [l0, l1, l2, .val (.int v), l4] (.int v :: st) H Q := w_x (show decode kb10 24 = .ok (.iload_n 3, 1) from by decide +kernel) rfl
theorem m10_25  : M10 25 ls (.int v :: .int j :: .ref (b + 13) :: st) (put b pre s A post) Q = (inB j (A 12) ∧ M10 26 ls st (put b pre s (ou A 12 (setA (A 12) j v)) post) Q) := w_ist (show decode kb10 25 = .ok (.iastore, 1) from by decide +kernel) rfl put_a12 (Nat.zero_le _) rfl put_w12
theorem m10_26 : M10 26 [.val (.ref r), l1, l2, l3, l4] st H Q = M10 27 [.val (.ref r), l1, l2, l3, l4] (.ref r :: st) H Q := w_x (show decode kb10 26 = .ok (.aload_n 0, 1) from by decide +kernel) rfl
theorem m10_27 : M10 27 [l0, l1, .val (.int v), l3, l4] st H Q = M10 28 [l0, l1, .val (.int v), l3, l4] (.int v :: st) H Q := w_x (show decode kb10 27 = .ok (.iload_n 2, 1) from by decide +kernel) rfl
theorem m10_28 : M10 28 [l0, .val (.int v), l2, l3, l4] st H Q = M10 29 [l0, .val (.int v), l2, l3, l4] (.int v :: st) H Q := w_x (show decode kb10 28 = .ok (.iload_n 1, 1) from by decide +kernel) rfl
theorem m10_29 : M10 29 [l0, l1, l2, .val (.int v), l4] st H Q = M10 30 [l0, l1, l2, .val (.int v), l4] (.int v :: st) H Q := w_x (show decode kb10 29 = .ok (.iload_n 3, 1) from by decide +kernel) rfl
theorem cr10_135 : vR tables_1 dn y10 135 = some (true, y13, prog_1_method_14_code, 8, (some .int), 3, 0) := pR_of (cR_of (by decide +kernel) rc_13 dn_13 dn_10 (sig := ⟨[.int, .int, .int], some .int⟩) (by decide +kernel) (by decide +kernel) rfl rfl) (by decide +kernel) (by decide +kernel)
theorem m10_30 (a0 : Int32) (a1 : Int32) (a2 : Int32) : M10 30 ls [.int a2, .int a1, .int a0, .ref b] (put b pre s A post) Q = M13 0 [.val (.ref b), .val (.int a0), .val (.int a1), .val (.int a2), .unset, .unset, .unset, .unset] [] (put b pre s A post) (fun v H1 => M10 33 ls (v.toList ++ []) H1 Q) := w_virt (as := [.int a2, .int a1, .int a0]) (rest := []) (a := b) (show decode kb10 30 = .ok (.invokevirtual 135, 3) from by decide +kernel) cr10_135 put_o rfl rfl (Nat.le_of_ble_eq_true rfl) (by show 4 ≤ 8; omega) rfl
theorem m10_33u : M10 33 [l0, l1, l2, l3, .unset] ((.int v) :: st) H Q = M10 35 [l0, l1, l2, l3, .val (.int v)] st H Q := w_st (i := 4) (p := isI) (show decode kb10 33 = .ok (.istore 4, 2) from by decide +kernel) rfl rfl rfl rfl rfl rfl
theorem m10_33i : M10 33 [l0, l1, l2, l3, .val (.int z)] ((.int v) :: st) H Q = M10 35 [l0, l1, l2, l3, .val (.int v)] st H Q := w_st (i := 4) (p := isI) (show decode kb10 33 = .ok (.istore 4, 2) from by decide +kernel) rfl rfl rfl rfl rfl rfl
theorem m10_33r : M10 33 [l0, l1, l2, l3, .val (.ref q)] ((.int v) :: st) H Q = M10 35 [l0, l1, l2, l3, .val (.int v)] st H Q := w_st (i := 4) (p := isI) (show decode kb10 33 = .ok (.istore 4, 2) from by decide +kernel) rfl rfl rfl rfl rfl rfl
theorem m10_35 : M10 35 [l0, l1, l2, l3, .val (.int v)] st H Q = M10 37 [l0, l1, l2, l3, .val (.int v)] (.int v :: st) H Q := w_x (show decode kb10 35 = .ok (.iload 4, 2) from by decide +kernel) rfl
theorem m10_37 : M10 37 ls (.int x :: st) H Q = if x < 0 then M10 40 ls st H Q else M10 42 ls st H Q := w_ifN (show decode kb10 37 = .ok (.ifCond .ge 5, 3) from by decide +kernel) (z_ge x) rfl
theorem m10_40 : M10 40 [l0, l1, .val (.int v), l3, l4] st H Q = M10 41 [l0, l1, .val (.int v), l3, l4] (.int v :: st) H Q := w_x (show decode kb10 40 = .ok (.iload_n 2, 1) from by decide +kernel) rfl
theorem m10_41 : M10 41 ls (.int z :: st) H Q = Q (some (.int z)) H := w_iret (show decode kb10 41 = .ok (.ireturn, 1) from by decide +kernel) rfl
theorem m10_42 : M10 42 [.val (.ref r), l1, l2, l3, l4] st H Q = M10 43 [.val (.ref r), l1, l2, l3, l4] (.ref r :: st) H Q := w_x (show decode kb10 42 = .ok (.aload_n 0, 1) from by decide +kernel) rfl
theorem m10_43 : M10 43 ls (.ref b :: st) (put b pre s A post) Q = M10 46 ls (.ref (b + 14) :: st) (put b pre s A post) Q := w_get (show decode kb10 43 = .ok (.getfield 49, 3) from by decide +kernel) gf_49 put_o rfl
theorem m10_46 : M10 46 [l0, l1, .val (.int v), l3, l4] st H Q = M10 47 [l0, l1, .val (.int v), l3, l4] (.int v :: st) H Q := w_x (show decode kb10 46 = .ok (.iload_n 2, 1) from by decide +kernel) rfl
theorem m10_47 : M10 47 [l0, l1, l2, l3, .val (.int v)] st H Q = M10 49 [l0, l1, l2, l3, .val (.int v)] (.int v :: st) H Q := w_x (show decode kb10 47 = .ok (.iload 4, 2) from by decide +kernel) rfl
theorem m10_49  : M10 49 ls (.int v :: .int j :: .ref (b + 14) :: st) (put b pre s A post) Q = (inB j (A 13) ∧ M10 50 ls st (put b pre s (ou A 13 (setA (A 13) j v)) post) Q) := w_ist (show decode kb10 49 = .ok (.iastore, 1) from by decide +kernel) rfl put_a13 (Nat.zero_le _) rfl put_w13
theorem m10_50 : M10 50 [l0, l1, .val (.int v), l3, l4] st H Q = M10 53 [l0, l1, .val (.int (v + 1)), l3, l4] st H Q := w_iinc (show decode kb10 50 = .ok (.iinc 2 1, 3) from by decide +kernel) rfl (by decide) rfl
theorem m10_53 : M10 53 ls st H Q = M10 7 ls st H Q := w_x (show decode kb10 53 = .ok (.goto (-46), 3) from by decide +kernel) rfl
theorem m10_56 : M10 56 ls st H Q = M10 57 ls (.int (-1) :: st) H Q := w_con (show decode kb10 56 = .ok (.iconst (-1), 1) from by decide +kernel) rfl (by decide)
theorem m10_57 : M10 57 ls (.int z :: st) H Q = Q (some (.int z)) H := w_iret (show decode kb10 57 = .ok (.ireturn, 1) from by decide +kernel) rfl
theorem m11_0 : M11 0 ls st H Q = M11 1 ls (.int 0 :: st) H Q := w_con (show decode kb11 0 = .ok (.iconst 0, 1) from by decide +kernel) rfl (by decide)
theorem m11_1u : M11 1 [l0, l1, .unset, l3, l4] ((.int v) :: st) H Q = M11 2 [l0, l1, .val (.int v), l3, l4] st H Q := w_st (i := 2) (p := isI) (show decode kb11 1 = .ok (.istore_n 2, 1) from by decide +kernel) rfl rfl rfl rfl rfl rfl
theorem m11_2 : M11 2 [l0, l1, .val (.int v), l3, l4] st H Q = M11 3 [l0, l1, .val (.int v), l3, l4] (.int v :: st) H Q := w_x (show decode kb11 2 = .ok (.iload_n 2, 1) from by decide +kernel) rfl
theorem m11_3 : M11 3 ls st H Q = M11 4 ls (.int 4 :: st) H Q := w_con (show decode kb11 3 = .ok (.iconst 4, 1) from by decide +kernel) rfl (by decide)
theorem m11_4 : M11 4 ls (.int y :: .int x :: st) H Q = if x < y then M11 7 ls st H Q else M11 70 ls st H Q := w_icmpN (show decode kb11 4 = .ok (.if_icmp .ge 66, 3) from by decide +kernel) (i_ge x y) rfl
theorem m11_7 : M11 7 ls st H Q = M11 8 ls (.int 0 :: st) H Q := w_con (show decode kb11 7 = .ok (.iconst 0, 1) from by decide +kernel) rfl (by decide)
theorem m11_8u : M11 8 [l0, l1, l2, .unset, l4] ((.int v) :: st) H Q = M11 9 [l0, l1, l2, .val (.int v), l4] st H Q := w_st (i := 3) (p := isI) (show decode kb11 8 = .ok (.istore_n 3, 1) from by decide +kernel) rfl rfl rfl rfl rfl rfl
theorem m11_8i : M11 8 [l0, l1, l2, .val (.int z), l4] ((.int v) :: st) H Q = M11 9 [l0, l1, l2, .val (.int v), l4] st H Q := w_st (i := 3) (p := isI) (show decode kb11 8 = .ok (.istore_n 3, 1) from by decide +kernel) rfl rfl rfl rfl rfl rfl
theorem m11_8r : M11 8 [l0, l1, l2, .val (.ref q), l4] ((.int v) :: st) H Q = M11 9 [l0, l1, l2, .val (.int v), l4] st H Q := w_st (i := 3) (p := isI) (show decode kb11 8 = .ok (.istore_n 3, 1) from by decide +kernel) rfl rfl rfl rfl rfl rfl
theorem m11_9 : M11 9 ls st H Q = M11 10 ls (.int 0 :: st) H Q := w_con (show decode kb11 9 = .ok (.iconst 0, 1) from by decide +kernel) rfl (by decide)
theorem m11_10u : M11 10 [l0, l1, l2, l3, .unset] ((.int v) :: st) H Q = M11 12 [l0, l1, l2, l3, .val (.int v)] st H Q := w_st (i := 4) (p := isI) (show decode kb11 10 = .ok (.istore 4, 2) from by decide +kernel) rfl rfl rfl rfl rfl rfl
theorem m11_10i : M11 10 [l0, l1, l2, l3, .val (.int z)] ((.int v) :: st) H Q = M11 12 [l0, l1, l2, l3, .val (.int v)] st H Q := w_st (i := 4) (p := isI) (show decode kb11 10 = .ok (.istore 4, 2) from by decide +kernel) rfl rfl rfl rfl rfl rfl
theorem m11_10r : M11 10 [l0, l1, l2, l3, .val (.ref q)] ((.int v) :: st) H Q = M11 12 [l0, l1, l2, l3, .val (.int v)] st H Q := w_st (i := 4) (p := isI) (show decode kb11 10 = .ok (.istore 4, 2) from by decide +kernel) rfl rfl rfl rfl rfl rfl
theorem m11_12 : M11 12 [l0, l1, l2, l3, .val (.int v)] st H Q = M11 14 [l0, l1, l2, l3, .val (.int v)] (.int v :: st) H Q := w_x (show decode kb11 12 = .ok (.iload 4, 2) from by decide +kernel) rfl
theorem m11_14 : M11 14 [l0, .val (.int v), l2, l3, l4] st H Q = M11 15 [l0, .val (.int v), l2, l3, l4] (.int v :: st) H Q := w_x (show decode kb11 14 = .ok (.iload_n 1, 1) from by decide +kernel) rfl
theorem m11_15 : M11 15 ls (.int y :: .int x :: st) H Q = if x < y then M11 18 ls st H Q else M11 57 ls st H Q := w_icmpN (show decode kb11 15 = .ok (.if_icmp .ge 42, 3) from by decide +kernel) (i_ge x y) rfl
theorem m11_18 : M11 18 [.val (.ref r), l1, l2, l3, l4] st H Q = M11 19 [.val (.ref r), l1, l2, l3, l4] (.ref r :: st) H Q := w_x (show decode kb11 18 = .ok (.aload_n 0, 1) from by decide +kernel) rfl
theorem m11_19 : M11 19 ls (.ref b :: st) (put b pre s A post) Q = M11 22 ls (.ref (b + 6) :: st) (put b pre s A post) Q := w_get (show decode kb11 19 = .ok (.getfield 25, 3) from by decide +kernel) gf_25 put_o rfl
theorem m11_22 : M11 22 [l0, l1, l2, l3, .val (.int v)] st H Q = M11 24 [l0, l1, l2, l3, .val (.int v)] (.int v :: st) H Q := w_x (show decode kb11 22 = .ok (.iload 4, 2) from by decide +kernel) rfl
theorem m11_24 : M11 24 ls st H Q = M11 25 ls (.int 4 :: st) H Q := w_con (show decode kb11 24 = .ok (.iconst 4, 1) from by decide +kernel) rfl (by decide)
theorem m11_25 : M11 25 ls (.int y :: .int x :: st) H Q = M11 26 ls (.int (x * y) :: st) H Q := w_x (show decode kb11 25 = .ok (.imul, 1) from by decide +kernel) rfl
theorem m11_26 : M11 26 [l0, l1, .val (.int v), l3, l4] st H Q = M11 27 [l0, l1, .val (.int v), l3, l4] (.int v :: st) H Q := w_x (show decode kb11 26 = .ok (.iload_n 2, 1) from by decide +kernel) rfl
theorem m11_27 : M11 27 ls (.int y :: .int x :: st) H Q = M11 28 ls (.int (x + y) :: st) H Q := w_x (show decode kb11 27 = .ok (.iadd, 1) from by decide +kernel) rfl
theorem m11_28  : M11 28 ls (.int j :: .ref (b + 6) :: st) (put b pre s A post) Q = (inB j (A 5) ∧ M11 29 ls (.int (getA (A 5) j) :: st) (put b pre s A post) Q) := w_ild (show decode kb11 28 = .ok (.iaload, 1) from by decide +kernel) rfl put_a5
theorem m11_29 : M11 29 ls (.int x :: st) H Q = if 0 < x then M11 32 ls st H Q else M11 51 ls st H Q := w_ifN (show decode kb11 29 = .ok (.ifCond .le 22, 3) from by decide +kernel) (z_le x) rfl
theorem m11_32 : M11 32 [.val (.ref r), l1, l2, l3, l4] st H Q = M11 33 [.val (.ref r), l1, l2, l3, l4] (.ref r :: st) H Q := w_x (show decode kb11 32 = .ok (.aload_n 0, 1) from by decide +kernel) rfl
theorem m11_33 : M11 33 ls (.ref b :: st) (put b pre s A post) Q = M11 36 ls (.ref (b + 4) :: st) (put b pre s A post) Q := w_get (show decode kb11 33 = .ok (.getfield 19, 3) from by decide +kernel) gf_19 put_o rfl
theorem m11_36 : M11 36 [l0, l1, l2, l3, .val (.int v)] st H Q = M11 38 [l0, l1, l2, l3, .val (.int v)] (.int v :: st) H Q := w_x (show decode kb11 36 = .ok (.iload 4, 2) from by decide +kernel) rfl
theorem m11_38  : M11 38 ls (.int j :: .ref (b + 4) :: st) (put b pre s A post) Q = (inB j (A 3) ∧ M11 39 ls (.int (getA (A 3) j) :: st) (put b pre s A post) Q) := w_ild (show decode kb11 38 = .ok (.iaload, 1) from by decide +kernel) rfl put_a3
theorem m11_39 : M11 39 [l0, l1, l2, .val (.int v), l4] st H Q = M11 40 [l0, l1, l2, .val (.int v), l4] (.int v :: st) H Q := w_x (show decode kb11 39 = .ok (.iload_n 3, 1) from by decide +kernel) rfl
theorem m11_40 : M11 40 ls (.int y :: .int x :: st) H Q = if y < x then M11 43 ls st H Q else M11 51 ls st H Q := w_icmpN (show decode kb11 40 = .ok (.if_icmp .le 11, 3) from by decide +kernel) (i_le x y) rfl
theorem m11_43 : M11 43 [.val (.ref r), l1, l2, l3, l4] st H Q = M11 44 [.val (.ref r), l1, l2, l3, l4] (.ref r :: st) H Q := w_x (show decode kb11 43 = .ok (.aload_n 0, 1) from by decide +kernel) rfl
theorem m11_44 : M11 44 ls (.ref b :: st) (put b pre s A post) Q = M11 47 ls (.ref (b + 4) :: st) (put b pre s A post) Q := w_get (show decode kb11 44 = .ok (.getfield 19, 3) from by decide +kernel) gf_19 put_o rfl
theorem m11_47 : M11 47 [l0, l1, l2, l3, .val (.int v)] st H Q = M11 49 [l0, l1, l2, l3, .val (.int v)] (.int v :: st) H Q := w_x (show decode kb11 47 = .ok (.iload 4, 2) from by decide +kernel) rfl
theorem m11_49  : M11 49 ls (.int j :: .ref (b + 4) :: st) (put b pre s A post) Q = (inB j (A 3) ∧ M11 50 ls (.int (getA (A 3) j) :: st) (put b pre s A post) Q) := w_ild (show decode kb11 49 = .ok (.iaload, 1) from by decide +kernel) rfl put_a3
theorem m11_50i : M11 50 [l0, l1, l2, .val (.int z), l4] ((.int v) :: st) H Q = M11 51 [l0, l1, l2, .val (.int v), l4] st H Q := w_st (i := 3) (p := isI) (show decode kb11 50 = .ok (.istore_n 3, 1) from by decide +kernel) rfl rfl rfl rfl rfl rfl
theorem m11_51 : M11 51 [l0, l1, l2, l3, .val (.int v)] st H Q = M11 54 [l0, l1, l2, l3, .val (.int (v + 1))] st H Q := w_iinc (show decode kb11 51 = .ok (.iinc 4 1, 3) from by decide +kernel) rfl (by decide) rfl
theorem m11_54 : M11 54 ls st H Q = M11 12 ls st H Q := w_x (show decode kb11 54 = .ok (.goto (-42), 3) from by decide +kernel) rfl
theorem m11_57 : M11 57 [.val (.ref r), l1, l2, l3, l4] st H Q = M11 58 [.val (.ref r), l1, l2, l3, l4] (.ref r :: st) H Q := w_x (show decode kb11 57 = .ok (.aload_n 0, 1) from by decide +kernel) rfl
theorem m11_58 : M11 58 ls (.ref b :: st) (put b pre s A post) Q = M11 61 ls (.ref (b + 12) :: st) (put b pre s A post) Q := w_get (show decode kb11 58 = .ok (.getfield 43, 3) from by decide +kernel) gf_43 put_o rfl
theorem m11_61 : M11 61 [l0, l1, .val (.int v), l3, l4] st H Q = M11 62 [l0, l1, .val (.int v), l3, l4] (.int v :: st) H Q := w_x (show decode kb11 61 = .ok (.iload_n 2, 1) from by decide +kernel) rfl
theorem m11_62 : M11 62 [l0, l1, l2, .val (.int v), l4] st H Q = M11 63 [l0, l1, l2, .val (.int v), l4] (.int v :: st) H Q := w_x (show decode kb11 62 = .ok (.iload_n 3, 1) from by decide +kernel) rfl
theorem m11_63  : M11 63 ls (.int v :: .int j :: .ref (b + 12) :: st) (put b pre s A post) Q = (inB j (A 11) ∧ M11 64 ls st (put b pre s (ou A 11 (setA (A 11) j v)) post) Q) := w_ist (show decode kb11 63 = .ok (.iastore, 1) from by decide +kernel) rfl put_a11 (Nat.zero_le _) rfl put_w11
theorem m11_64 : M11 64 [l0, l1, .val (.int v), l3, l4] st H Q = M11 67 [l0, l1, .val (.int (v + 1)), l3, l4] st H Q := w_iinc (show decode kb11 64 = .ok (.iinc 2 1, 3) from by decide +kernel) rfl (by decide) rfl
theorem m11_67 : M11 67 ls st H Q = M11 2 ls st H Q := w_x (show decode kb11 67 = .ok (.goto (-65), 3) from by decide +kernel) rfl
theorem m11_70 : M11 70 ls [] H Q = Q none H := w_vret (show decode kb11 70 = .ok (.return_, 1) from by decide +kernel) rfl
theorem m12_0 : M12 0 ls st H Q = M12 1 ls (.int 0 :: st) H Q := w_con (show decode kb12 0 = .ok (.iconst 0, 1) from by decide +kernel) rfl (by decide)
theorem m12_1u : M12 1 [l0, l1, l2, .unset, l4, l5, l6, l7] ((.int v) :: st) H Q = M12 2 [l0, l1, l2, .val (.int v), l4, l5, l6, l7] st H Q := w_st (i := 3) (p := isI) (show decode kb12 1 = .ok (.istore_n 3, 1) from by decide +kernel) rfl rfl rfl rfl rfl rfl
theorem m12_2 : M12 2 [.val (.ref r), l1, l2, l3, l4, l5, l6, l7] st H Q = M12 3 [.val (.ref r), l1, l2, l3, l4, l5, l6, l7] (.ref r :: st) H Q := w_x (show decode kb12 2 = .ok (.aload_n 0, 1) from by decide +kernel) rfl
theorem m12_3 : M12 3 ls (.ref b :: st) (put b pre s A post) Q = M12 6 ls (.ref (b + 4) :: st) (put b pre s A post) Q := w_get (show decode kb12 3 = .ok (.getfield 19, 3) from by decide +kernel) gf_19 put_o rfl
theorem m12_6 : M12 6 [l0, .val (.int v), l2, l3, l4, l5, l6, l7] st H Q = M12 7 [l0, .val (.int v), l2, l3, l4, l5, l6, l7] (.int v :: st) H Q := w_x (show decode kb12 6 = .ok (.iload_n 1, 1) from by decide +kernel) rfl
theorem m12_7  : M12 7 ls (.int j :: .ref (b + 4) :: st) (put b pre s A post) Q = (inB j (A 3) ∧ M12 8 ls (.int (getA (A 3) j) :: st) (put b pre s A post) Q) := w_ild (show decode kb12 7 = .ok (.iaload, 1) from by decide +kernel) rfl put_a3
theorem m12_8u : M12 8 [l0, l1, l2, l3, .unset, l5, l6, l7] ((.int v) :: st) H Q = M12 10 [l0, l1, l2, l3, .val (.int v), l5, l6, l7] st H Q := w_st (i := 4) (p := isI) (show decode kb12 8 = .ok (.istore 4, 2) from by decide +kernel) rfl rfl rfl rfl rfl rfl
theorem m12_10 : M12 10 ls st H Q = M12 11 ls (.int 0 :: st) H Q := w_con (show decode kb12 10 = .ok (.iconst 0, 1) from by decide +kernel) rfl (by decide)
theorem m12_11u : M12 11 [l0, l1, l2, l3, l4, .unset, l6, l7] ((.int v) :: st) H Q = M12 13 [l0, l1, l2, l3, l4, .val (.int v), l6, l7] st H Q := w_st (i := 5) (p := isI) (show decode kb12 11 = .ok (.istore 5, 2) from by decide +kernel) rfl rfl rfl rfl rfl rfl
theorem m12_13 : M12 13 [l0, l1, l2, l3, l4, .val (.int v), l6, l7] st H Q = M12 15 [l0, l1, l2, l3, l4, .val (.int v), l6, l7] (.int v :: st) H Q := w_x (show decode kb12 13 = .ok (.iload 5, 2) from by decide +kernel) rfl
theorem m12_15 : M12 15 [l0, l1, .val (.int v), l3, l4, l5, l6, l7] st H Q = M12 16 [l0, l1, .val (.int v), l3, l4, l5, l6, l7] (.int v :: st) H Q := w_x (show decode kb12 15 = .ok (.iload_n 2, 1) from by decide +kernel) rfl
theorem m12_16 : M12 16 ls (.int y :: .int x :: st) H Q = if x < y then M12 19 ls st H Q else M12 95 ls st H Q := w_icmpN (show decode kb12 16 = .ok (.if_icmp .ge 79, 3) from by decide +kernel) (i_ge x y) rfl
theorem m12_19 : M12 19 [.val (.ref r), l1, l2, l3, l4, l5, l6, l7] st H Q = M12 20 [.val (.ref r), l1, l2, l3, l4, l5, l6, l7] (.ref r :: st) H Q := w_x (show decode kb12 19 = .ok (.aload_n 0, 1) from by decide +kernel) rfl
theorem m12_20 : M12 20 ls (.ref b :: st) (put b pre s A post) Q = M12 23 ls (.ref (b + 4) :: st) (put b pre s A post) Q := w_get (show decode kb12 20 = .ok (.getfield 19, 3) from by decide +kernel) gf_19 put_o rfl
theorem m12_23 : M12 23 [l0, l1, l2, l3, l4, .val (.int v), l6, l7] st H Q = M12 25 [l0, l1, l2, l3, l4, .val (.int v), l6, l7] (.int v :: st) H Q := w_x (show decode kb12 23 = .ok (.iload 5, 2) from by decide +kernel) rfl
theorem m12_25  : M12 25 ls (.int j :: .ref (b + 4) :: st) (put b pre s A post) Q = (inB j (A 3) ∧ M12 26 ls (.int (getA (A 3) j) :: st) (put b pre s A post) Q) := w_ild (show decode kb12 25 = .ok (.iaload, 1) from by decide +kernel) rfl put_a3
theorem m12_26 : M12 26 [l0, l1, l2, l3, .val (.int v), l5, l6, l7] st H Q = M12 28 [l0, l1, l2, l3, .val (.int v), l5, l6, l7] (.int v :: st) H Q := w_x (show decode kb12 26 = .ok (.iload 4, 2) from by decide +kernel) rfl
theorem m12_28 : M12 28 ls (.int y :: .int x :: st) H Q = if x < y then M12 34 ls st H Q else M12 31 ls st H Q := w_icmp (show decode kb12 28 = .ok (.if_icmp .lt 6, 3) from by decide +kernel) (i_lt x y) rfl
theorem m12_31 : M12 31 ls st H Q = M12 89 ls st H Q := w_x (show decode kb12 31 = .ok (.goto 58, 3) from by decide +kernel) rfl
theorem m12_34 : M12 34 ls st H Q = M12 35 ls (.int 0 :: st) H Q := w_con (show decode kb12 34 = .ok (.iconst 0, 1) from by decide +kernel) rfl (by decide)
theorem m12_35u : M12 35 [l0, l1, l2, l3, l4, l5, .unset, l7] ((.int v) :: st) H Q = M12 37 [l0, l1, l2, l3, l4, l5, .val (.int v), l7] st H Q := w_st (i := 6) (p := isI) (show decode kb12 35 = .ok (.istore 6, 2) from by decide +kernel) rfl rfl rfl rfl rfl rfl
theorem m12_35i : M12 35 [l0, l1, l2, l3, l4, l5, .val (.int z), l7] ((.int v) :: st) H Q = M12 37 [l0, l1, l2, l3, l4, l5, .val (.int v), l7] st H Q := w_st (i := 6) (p := isI) (show decode kb12 35 = .ok (.istore 6, 2) from by decide +kernel) rfl rfl rfl rfl rfl rfl
theorem m12_35r : M12 35 [l0, l1, l2, l3, l4, l5, .val (.ref q), l7] ((.int v) :: st) H Q = M12 37 [l0, l1, l2, l3, l4, l5, .val (.int v), l7] st H Q := w_st (i := 6) (p := isI) (show decode kb12 35 = .ok (.istore 6, 2) from by decide +kernel) rfl rfl rfl rfl rfl rfl
theorem m12_37 : M12 37 [l0, l1, l2, l3, l4, l5, .val (.int v), l7] st H Q = M12 39 [l0, l1, l2, l3, l4, l5, .val (.int v), l7] (.int v :: st) H Q := w_x (show decode kb12 37 = .ok (.iload 6, 2) from by decide +kernel) rfl
theorem m12_39 : M12 39 ls st H Q = M12 40 ls (.int 4 :: st) H Q := w_con (show decode kb12 39 = .ok (.iconst 4, 1) from by decide +kernel) rfl (by decide)
theorem m12_40 : M12 40 ls (.int y :: .int x :: st) H Q = if x < y then M12 43 ls st H Q else M12 89 ls st H Q := w_icmpN (show decode kb12 40 = .ok (.if_icmp .ge 49, 3) from by decide +kernel) (i_ge x y) rfl
theorem m12_43 : M12 43 [.val (.ref r), l1, l2, l3, l4, l5, l6, l7] st H Q = M12 44 [.val (.ref r), l1, l2, l3, l4, l5, l6, l7] (.ref r :: st) H Q := w_x (show decode kb12 43 = .ok (.aload_n 0, 1) from by decide +kernel) rfl
theorem m12_44 : M12 44 ls (.ref b :: st) (put b pre s A post) Q = M12 47 ls (.ref (b + 6) :: st) (put b pre s A post) Q := w_get (show decode kb12 44 = .ok (.getfield 25, 3) from by decide +kernel) gf_25 put_o rfl
theorem m12_47 : M12 47 [l0, l1, l2, l3, l4, .val (.int v), l6, l7] st H Q = M12 49 [l0, l1, l2, l3, l4, .val (.int v), l6, l7] (.int v :: st) H Q := w_x (show decode kb12 47 = .ok (.iload 5, 2) from by decide +kernel) rfl
theorem m12_49 : M12 49 ls st H Q = M12 50 ls (.int 4 :: st) H Q := w_con (show decode kb12 49 = .ok (.iconst 4, 1) from by decide +kernel) rfl (by decide)
theorem m12_50 : M12 50 ls (.int y :: .int x :: st) H Q = M12 51 ls (.int (x * y) :: st) H Q := w_x (show decode kb12 50 = .ok (.imul, 1) from by decide +kernel) rfl
theorem m12_51 : M12 51 [l0, l1, l2, l3, l4, l5, .val (.int v), l7] st H Q = M12 53 [l0, l1, l2, l3, l4, l5, .val (.int v), l7] (.int v :: st) H Q := w_x (show decode kb12 51 = .ok (.iload 6, 2) from by decide +kernel) rfl
theorem m12_53 : M12 53 ls (.int y :: .int x :: st) H Q = M12 54 ls (.int (x + y) :: st) H Q := w_x (show decode kb12 53 = .ok (.iadd, 1) from by decide +kernel) rfl
theorem m12_54  : M12 54 ls (.int j :: .ref (b + 6) :: st) (put b pre s A post) Q = (inB j (A 5) ∧ M12 55 ls (.int (getA (A 5) j) :: st) (put b pre s A post) Q) := w_ild (show decode kb12 54 = .ok (.iaload, 1) from by decide +kernel) rfl put_a5
theorem m12_55u : M12 55 [l0, l1, l2, l3, l4, l5, l6, .unset] ((.int v) :: st) H Q = M12 57 [l0, l1, l2, l3, l4, l5, l6, .val (.int v)] st H Q := w_st (i := 7) (p := isI) (show decode kb12 55 = .ok (.istore 7, 2) from by decide +kernel) rfl rfl rfl rfl rfl rfl
theorem m12_55i : M12 55 [l0, l1, l2, l3, l4, l5, l6, .val (.int z)] ((.int v) :: st) H Q = M12 57 [l0, l1, l2, l3, l4, l5, l6, .val (.int v)] st H Q := w_st (i := 7) (p := isI) (show decode kb12 55 = .ok (.istore 7, 2) from by decide +kernel) rfl rfl rfl rfl rfl rfl
theorem m12_55r : M12 55 [l0, l1, l2, l3, l4, l5, l6, .val (.ref q)] ((.int v) :: st) H Q = M12 57 [l0, l1, l2, l3, l4, l5, l6, .val (.int v)] st H Q := w_st (i := 7) (p := isI) (show decode kb12 55 = .ok (.istore 7, 2) from by decide +kernel) rfl rfl rfl rfl rfl rfl
theorem m12_57 : M12 57 [l0, l1, l2, l3, l4, l5, l6, .val (.int v)] st H Q = M12 59 [l0, l1, l2, l3, l4, l5, l6, .val (.int v)] (.int v :: st) H Q := w_x (show decode kb12 57 = .ok (.iload 7, 2) from by decide +kernel) rfl
theorem m12_59 : M12 59 ls (.int x :: st) H Q = if 0 < x then M12 62 ls st H Q else M12 83 ls st H Q := w_ifN (show decode kb12 59 = .ok (.ifCond .le 24, 3) from by decide +kernel) (z_le x) rfl
theorem m12_62 : M12 62 [.val (.ref r), l1, l2, l3, l4, l5, l6, l7] st H Q = M12 63 [.val (.ref r), l1, l2, l3, l4, l5, l6, l7] (.ref r :: st) H Q := w_x (show decode kb12 62 = .ok (.aload_n 0, 1) from by decide +kernel) rfl
theorem m12_63 : M12 63 ls (.ref b :: st) (put b pre s A post) Q = M12 66 ls (.ref (b + 12) :: st) (put b pre s A post) Q := w_get (show decode kb12 63 = .ok (.getfield 43, 3) from by decide +kernel) gf_43 put_o rfl
theorem m12_66 : M12 66 [l0, l1, l2, l3, l4, l5, .val (.int v), l7] st H Q = M12 68 [l0, l1, l2, l3, l4, l5, .val (.int v), l7] (.int v :: st) H Q := w_x (show decode kb12 66 = .ok (.iload 6, 2) from by decide +kernel) rfl
theorem m12_68  : M12 68 ls (.int j :: .ref (b + 12) :: st) (put b pre s A post) Q = (inB j (A 11) ∧ M12 69 ls (.int (getA (A 11) j) :: st) (put b pre s A post) Q) := w_ild (show decode kb12 68 = .ok (.iaload, 1) from by decide +kernel) rfl put_a11
theorem m12_69 : M12 69 [l0, l1, l2, l3, .val (.int v), l5, l6, l7] st H Q = M12 71 [l0, l1, l2, l3, .val (.int v), l5, l6, l7] (.int v :: st) H Q := w_x (show decode kb12 69 = .ok (.iload 4, 2) from by decide +kernel) rfl
theorem m12_71 : M12 71 ls (.int y :: .int x :: st) H Q = if x < y then M12 83 ls st H Q else M12 74 ls st H Q := w_icmp (show decode kb12 71 = .ok (.if_icmp .lt 12, 3) from by decide +kernel) (i_lt x y) rfl
theorem m12_74 : M12 74 [l0, l1, l2, l3, l4, l5, l6, .val (.int v)] st H Q = M12 76 [l0, l1, l2, l3, l4, l5, l6, .val (.int v)] (.int v :: st) H Q := w_x (show decode kb12 74 = .ok (.iload 7, 2) from by decide +kernel) rfl
theorem m12_76 : M12 76 [l0, l1, l2, .val (.int v), l4, l5, l6, l7] st H Q = M12 77 [l0, l1, l2, .val (.int v), l4, l5, l6, l7] (.int v :: st) H Q := w_x (show decode kb12 76 = .ok (.iload_n 3, 1) from by decide +kernel) rfl
theorem m12_77 : M12 77 ls (.int y :: .int x :: st) H Q = if y < x then M12 80 ls st H Q else M12 83 ls st H Q := w_icmpN (show decode kb12 77 = .ok (.if_icmp .le 6, 3) from by decide +kernel) (i_le x y) rfl
theorem m12_80 : M12 80 [l0, l1, l2, l3, l4, l5, l6, .val (.int v)] st H Q = M12 82 [l0, l1, l2, l3, l4, l5, l6, .val (.int v)] (.int v :: st) H Q := w_x (show decode kb12 80 = .ok (.iload 7, 2) from by decide +kernel) rfl
theorem m12_82i : M12 82 [l0, l1, l2, .val (.int z), l4, l5, l6, l7] ((.int v) :: st) H Q = M12 83 [l0, l1, l2, .val (.int v), l4, l5, l6, l7] st H Q := w_st (i := 3) (p := isI) (show decode kb12 82 = .ok (.istore_n 3, 1) from by decide +kernel) rfl rfl rfl rfl rfl rfl
theorem m12_83 : M12 83 [l0, l1, l2, l3, l4, l5, .val (.int v), l7] st H Q = M12 86 [l0, l1, l2, l3, l4, l5, .val (.int (v + 1)), l7] st H Q := w_iinc (show decode kb12 83 = .ok (.iinc 6 1, 3) from by decide +kernel) rfl (by decide) rfl
theorem m12_86 : M12 86 ls st H Q = M12 37 ls st H Q := w_x (show decode kb12 86 = .ok (.goto (-49), 3) from by decide +kernel) rfl
theorem m12_89 : M12 89 [l0, l1, l2, l3, l4, .val (.int v), l6, l7] st H Q = M12 92 [l0, l1, l2, l3, l4, .val (.int (v + 1)), l6, l7] st H Q := w_iinc (show decode kb12 89 = .ok (.iinc 5 1, 3) from by decide +kernel) rfl (by decide) rfl
theorem m12_92 : M12 92 ls st H Q = M12 13 ls st H Q := w_x (show decode kb12 92 = .ok (.goto (-79), 3) from by decide +kernel) rfl
theorem m12_95 : M12 95 [l0, l1, l2, .val (.int v), l4, l5, l6, l7] st H Q = M12 96 [l0, l1, l2, .val (.int v), l4, l5, l6, l7] (.int v :: st) H Q := w_x (show decode kb12 95 = .ok (.iload_n 3, 1) from by decide +kernel) rfl
theorem m12_96 : M12 96 ls (.int z :: st) H Q = Q (some (.int z)) H := w_iret (show decode kb12 96 = .ok (.ireturn, 1) from by decide +kernel) rfl
theorem m13_0 : M13 0 [.val (.ref r), l1, l2, l3, l4, l5, l6, l7] st H Q = M13 1 [.val (.ref r), l1, l2, l3, l4, l5, l6, l7] (.ref r :: st) H Q := w_x (show decode kb13 0 = .ok (.aload_n 0, 1) from by decide +kernel) rfl
theorem m13_1 : M13 1 ls (.ref b :: st) (put b pre s A post) Q = M13 4 ls (.ref (b + 3) :: st) (put b pre s A post) Q := w_get (show decode kb13 1 = .ok (.getfield 16, 3) from by decide +kernel) gf_16 put_o rfl
theorem m13_4 : M13 4 [l0, .val (.int v), l2, l3, l4, l5, l6, l7] st H Q = M13 5 [l0, .val (.int v), l2, l3, l4, l5, l6, l7] (.int v :: st) H Q := w_x (show decode kb13 4 = .ok (.iload_n 1, 1) from by decide +kernel) rfl
theorem m13_5  : M13 5 ls (.int j :: .ref (b + 3) :: st) (put b pre s A post) Q = (inB j (A 2) ∧ M13 6 ls (.int (getA (A 2) j) :: st) (put b pre s A post) Q) := w_ild (show decode kb13 5 = .ok (.iaload, 1) from by decide +kernel) rfl put_a2
theorem m13_6 : M13 6 [l0, l1, l2, .val (.int v), l4, l5, l6, l7] st H Q = M13 7 [l0, l1, l2, .val (.int v), l4, l5, l6, l7] (.int v :: st) H Q := w_x (show decode kb13 6 = .ok (.iload_n 3, 1) from by decide +kernel) rfl
theorem m13_7 : M13 7 ls (.int y :: .int x :: st) H Q = M13 8 ls (.int (x + y) :: st) H Q := w_x (show decode kb13 7 = .ok (.iadd, 1) from by decide +kernel) rfl
theorem m13_8u : M13 8 [l0, l1, l2, l3, .unset, l5, l6, l7] ((.int v) :: st) H Q = M13 10 [l0, l1, l2, l3, .val (.int v), l5, l6, l7] st H Q := w_st (i := 4) (p := isI) (show decode kb13 8 = .ok (.istore 4, 2) from by decide +kernel) rfl rfl rfl rfl rfl rfl
theorem m13_10 : M13 10 [l0, l1, l2, l3, .val (.int v), l5, l6, l7] st H Q = M13 12 [l0, l1, l2, l3, .val (.int v), l5, l6, l7] (.int v :: st) H Q := w_x (show decode kb13 10 = .ok (.iload 4, 2) from by decide +kernel) rfl
theorem m13_12u : M13 12 [l0, l1, l2, l3, l4, .unset, l6, l7] ((.int v) :: st) H Q = M13 14 [l0, l1, l2, l3, l4, .val (.int v), l6, l7] st H Q := w_st (i := 5) (p := isI) (show decode kb13 12 = .ok (.istore 5, 2) from by decide +kernel) rfl rfl rfl rfl rfl rfl
theorem m13_14 : M13 14 ls st H Q = M13 15 ls (.int 0 :: st) H Q := w_con (show decode kb13 14 = .ok (.iconst 0, 1) from by decide +kernel) rfl (by decide)
theorem m13_15u : M13 15 [l0, l1, l2, l3, l4, l5, .unset, l7] ((.int v) :: st) H Q = M13 17 [l0, l1, l2, l3, l4, l5, .val (.int v), l7] st H Q := w_st (i := 6) (p := isI) (show decode kb13 15 = .ok (.istore 6, 2) from by decide +kernel) rfl rfl rfl rfl rfl rfl
theorem m13_17 : M13 17 [l0, l1, l2, l3, l4, l5, .val (.int v), l7] st H Q = M13 19 [l0, l1, l2, l3, l4, l5, .val (.int v), l7] (.int v :: st) H Q := w_x (show decode kb13 17 = .ok (.iload 6, 2) from by decide +kernel) rfl
theorem m13_19 : M13 19 ls st H Q = M13 22 ls (.int 842 :: st) H Q := w_con (show decode kb13 19 = .ok (.sipush 842, 3) from by decide +kernel) rfl (by decide)
theorem m13_22 : M13 22 ls (.int y :: .int x :: st) H Q = if x < y then M13 25 ls st H Q else M13 71 ls st H Q := w_icmpN (show decode kb13 22 = .ok (.if_icmp .ge 49, 3) from by decide +kernel) (i_ge x y) rfl
theorem m13_25 : M13 25 [l0, l1, l2, l3, l4, .val (.int v), l6, l7] st H Q = M13 27 [l0, l1, l2, l3, l4, .val (.int v), l6, l7] (.int v :: st) H Q := w_x (show decode kb13 25 = .ok (.iload 5, 2) from by decide +kernel) rfl
theorem m13_27 : M13 27 [.val (.ref r), l1, l2, l3, l4, l5, l6, l7] st H Q = M13 28 [.val (.ref r), l1, l2, l3, l4, l5, l6, l7] (.ref r :: st) H Q := w_x (show decode kb13 27 = .ok (.aload_n 0, 1) from by decide +kernel) rfl
theorem m13_28 : M13 28 ls (.ref b :: st) (put b pre s A post) Q = M13 31 ls (.ref (b + 2) :: st) (put b pre s A post) Q := w_get (show decode kb13 28 = .ok (.getfield 13, 3) from by decide +kernel) gf_13 put_o rfl
theorem m13_31 : M13 31 [l0, .val (.int v), l2, l3, l4, l5, l6, l7] st H Q = M13 32 [l0, .val (.int v), l2, l3, l4, l5, l6, l7] (.int v :: st) H Q := w_x (show decode kb13 31 = .ok (.iload_n 1, 1) from by decide +kernel) rfl
theorem m13_32  : M13 32 ls (.int j :: .ref (b + 2) :: st) (put b pre s A post) Q = (inB j (A 1) ∧ M13 33 ls (.int (getA (A 1) j) :: st) (put b pre s A post) Q) := w_ild (show decode kb13 32 = .ok (.iaload, 1) from by decide +kernel) rfl put_a1
theorem m13_33 : M13 33 ls (.int y :: .int x :: st) H Q = if y < x then M13 36 ls st H Q else M13 38 ls st H Q := w_icmpN (show decode kb13 33 = .ok (.if_icmp .le 5, 3) from by decide +kernel) (i_le x y) rfl
theorem m13_36 : M13 36 ls st H Q = M13 37 ls (.int (-1) :: st) H Q := w_con (show decode kb13 36 = .ok (.iconst (-1), 1) from by decide +kernel) rfl (by decide)
theorem m13_37 : M13 37 ls (.int z :: st) H Q = Q (some (.int z)) H := w_iret (show decode kb13 37 = .ok (.ireturn, 1) from by decide +kernel) rfl
theorem m13_38 : M13 38 [l0, l1, l2, l3, .val (.int v), l5, l6, l7] st H Q = M13 40 [l0, l1, l2, l3, .val (.int v), l5, l6, l7] (.int v :: st) H Q := w_x (show decode kb13 38 = .ok (.iload 4, 2) from by decide +kernel) rfl
theorem m13_40 : M13 40 [.val (.ref r), l1, l2, l3, l4, l5, l6, l7] st H Q = M13 41 [.val (.ref r), l1, l2, l3, l4, l5, l6, l7] (.ref r :: st) H Q := w_x (show decode kb13 40 = .ok (.aload_n 0, 1) from by decide +kernel) rfl
theorem m13_41 : M13 41 [l0, .val (.int v), l2, l3, l4, l5, l6, l7] st H Q = M13 42 [l0, .val (.int v), l2, l3, l4, l5, l6, l7] (.int v :: st) H Q := w_x (show decode kb13 41 = .ok (.iload_n 1, 1) from by decide +kernel) rfl
theorem m13_42 : M13 42 [l0, l1, .val (.int v), l3, l4, l5, l6, l7] st H Q = M13 43 [l0, l1, .val (.int v), l3, l4, l5, l6, l7] (.int v :: st) H Q := w_x (show decode kb13 42 = .ok (.iload_n 2, 1) from by decide +kernel) rfl
theorem m13_43 : M13 43 [l0, l1, l2, l3, l4, .val (.int v), l6, l7] st H Q = M13 45 [l0, l1, l2, l3, l4, .val (.int v), l6, l7] (.int v :: st) H Q := w_x (show decode kb13 43 = .ok (.iload 5, 2) from by decide +kernel) rfl
theorem cr13_139 : vR tables_1 dn y13 139 = some (true, y14, prog_1_method_15_code, 8, (some .int), 3, 1) := pR_of (cR_of (by decide +kernel) rc_14 dn_14 dn_13 (sig := ⟨[.int, .int, .int], some .int⟩) (by decide +kernel) (by decide +kernel) rfl rfl) (by decide +kernel) (by decide +kernel)
theorem m13_45 (a0 : Int32) (a1 : Int32) (a2 : Int32) (u0 : Int32) : M13 45 ls [.int a2, .int a1, .int a0, .ref b, .int u0] (put b pre s A post) Q = M14 0 [.val (.ref b), .val (.int a0), .val (.int a1), .val (.int a2), .unset, .unset, .unset, .unset] [] (put b pre s A post) (fun v H1 => M13 48 ls (v.toList ++ [.int u0]) H1 Q) := w_virt (as := [.int a2, .int a1, .int a0]) (rest := [.int u0]) (a := b) (show decode kb13 45 = .ok (.invokevirtual 139, 3) from by decide +kernel) cr13_139 put_o rfl rfl (Nat.le_of_ble_eq_true rfl) (by show 4 ≤ 8; omega) rfl
theorem m13_48 : M13 48 ls (.int y :: .int x :: st) H Q = M13 49 ls (.int (x + y) :: st) H Q := w_x (show decode kb13 48 = .ok (.iadd, 1) from by decide +kernel) rfl
theorem m13_49u : M13 49 [l0, l1, l2, l3, l4, l5, l6, .unset] ((.int v) :: st) H Q = M13 51 [l0, l1, l2, l3, l4, l5, l6, .val (.int v)] st H Q := w_st (i := 7) (p := isI) (show decode kb13 49 = .ok (.istore 7, 2) from by decide +kernel) rfl rfl rfl rfl rfl rfl
theorem m13_49i : M13 49 [l0, l1, l2, l3, l4, l5, l6, .val (.int z)] ((.int v) :: st) H Q = M13 51 [l0, l1, l2, l3, l4, l5, l6, .val (.int v)] st H Q := w_st (i := 7) (p := isI) (show decode kb13 49 = .ok (.istore 7, 2) from by decide +kernel) rfl rfl rfl rfl rfl rfl
theorem m13_49r : M13 49 [l0, l1, l2, l3, l4, l5, l6, .val (.ref q)] ((.int v) :: st) H Q = M13 51 [l0, l1, l2, l3, l4, l5, l6, .val (.int v)] st H Q := w_st (i := 7) (p := isI) (show decode kb13 49 = .ok (.istore 7, 2) from by decide +kernel) rfl rfl rfl rfl rfl rfl
theorem m13_51 : M13 51 [l0, l1, l2, l3, l4, l5, l6, .val (.int v)] st H Q = M13 53 [l0, l1, l2, l3, l4, l5, l6, .val (.int v)] (.int v :: st) H Q := w_x (show decode kb13 51 = .ok (.iload 7, 2) from by decide +kernel) rfl
theorem m13_53 : M13 53 [l0, l1, l2, l3, l4, .val (.int v), l6, l7] st H Q = M13 55 [l0, l1, l2, l3, l4, .val (.int v), l6, l7] (.int v :: st) H Q := w_x (show decode kb13 53 = .ok (.iload 5, 2) from by decide +kernel) rfl
theorem m13_55 : M13 55 ls (.int y :: .int x :: st) H Q = if x = y then M13 58 ls st H Q else M13 61 ls st H Q := w_icmpN (show decode kb13 55 = .ok (.if_icmp .ne 6, 3) from by decide +kernel) (i_ne x y) rfl
theorem m13_58 : M13 58 [l0, l1, l2, l3, l4, .val (.int v), l6, l7] st H Q = M13 60 [l0, l1, l2, l3, l4, .val (.int v), l6, l7] (.int v :: st) H Q := w_x (show decode kb13 58 = .ok (.iload 5, 2) from by decide +kernel) rfl
theorem m13_60 : M13 60 ls (.int z :: st) H Q = Q (some (.int z)) H := w_iret (show decode kb13 60 = .ok (.ireturn, 1) from by decide +kernel) rfl
theorem m13_61 : M13 61 [l0, l1, l2, l3, l4, l5, l6, .val (.int v)] st H Q = M13 63 [l0, l1, l2, l3, l4, l5, l6, .val (.int v)] (.int v :: st) H Q := w_x (show decode kb13 61 = .ok (.iload 7, 2) from by decide +kernel) rfl
theorem m13_63i : M13 63 [l0, l1, l2, l3, l4, .val (.int z), l6, l7] ((.int v) :: st) H Q = M13 65 [l0, l1, l2, l3, l4, .val (.int v), l6, l7] st H Q := w_st (i := 5) (p := isI) (show decode kb13 63 = .ok (.istore 5, 2) from by decide +kernel) rfl rfl rfl rfl rfl rfl
theorem m13_65 : M13 65 [l0, l1, l2, l3, l4, l5, .val (.int v), l7] st H Q = M13 68 [l0, l1, l2, l3, l4, l5, .val (.int (v + 1)), l7] st H Q := w_iinc (show decode kb13 65 = .ok (.iinc 6 1, 3) from by decide +kernel) rfl (by decide) rfl
theorem m13_68 : M13 68 ls st H Q = M13 17 ls st H Q := w_x (show decode kb13 68 = .ok (.goto (-51), 3) from by decide +kernel) rfl
theorem m13_71 : M13 71 ls st H Q = M13 72 ls (.int (-1) :: st) H Q := w_con (show decode kb13 71 = .ok (.iconst (-1), 1) from by decide +kernel) rfl (by decide)
theorem m13_72 : M13 72 ls (.int z :: st) H Q = Q (some (.int z)) H := w_iret (show decode kb13 72 = .ok (.ireturn, 1) from by decide +kernel) rfl
theorem m14_0 : M14 0 ls st H Q = M14 1 ls (.int 0 :: st) H Q := w_con (show decode kb14 0 = .ok (.iconst 0, 1) from by decide +kernel) rfl (by decide)
theorem m14_1u : M14 1 [l0, l1, l2, l3, .unset, l5, l6, l7] ((.int v) :: st) H Q = M14 3 [l0, l1, l2, l3, .val (.int v), l5, l6, l7] st H Q := w_st (i := 4) (p := isI) (show decode kb14 1 = .ok (.istore 4, 2) from by decide +kernel) rfl rfl rfl rfl rfl rfl
theorem m14_3 : M14 3 [.val (.ref r), l1, l2, l3, l4, l5, l6, l7] st H Q = M14 4 [.val (.ref r), l1, l2, l3, l4, l5, l6, l7] (.ref r :: st) H Q := w_x (show decode kb14 3 = .ok (.aload_n 0, 1) from by decide +kernel) rfl
theorem m14_4 : M14 4 ls (.ref b :: st) (put b pre s A post) Q = M14 7 ls (.ref (b + 4) :: st) (put b pre s A post) Q := w_get (show decode kb14 4 = .ok (.getfield 19, 3) from by decide +kernel) gf_19 put_o rfl
theorem m14_7 : M14 7 [l0, .val (.int v), l2, l3, l4, l5, l6, l7] st H Q = M14 8 [l0, .val (.int v), l2, l3, l4, l5, l6, l7] (.int v :: st) H Q := w_x (show decode kb14 7 = .ok (.iload_n 1, 1) from by decide +kernel) rfl
theorem m14_8  : M14 8 ls (.int j :: .ref (b + 4) :: st) (put b pre s A post) Q = (inB j (A 3) ∧ M14 9 ls (.int (getA (A 3) j) :: st) (put b pre s A post) Q) := w_ild (show decode kb14 8 = .ok (.iaload, 1) from by decide +kernel) rfl put_a3
theorem m14_9u : M14 9 [l0, l1, l2, l3, l4, .unset, l6, l7] ((.int v) :: st) H Q = M14 11 [l0, l1, l2, l3, l4, .val (.int v), l6, l7] st H Q := w_st (i := 5) (p := isI) (show decode kb14 9 = .ok (.istore 5, 2) from by decide +kernel) rfl rfl rfl rfl rfl rfl
theorem m14_11 : M14 11 ls st H Q = M14 12 ls (.int 0 :: st) H Q := w_con (show decode kb14 11 = .ok (.iconst 0, 1) from by decide +kernel) rfl (by decide)
theorem m14_12u : M14 12 [l0, l1, l2, l3, l4, l5, .unset, l7] ((.int v) :: st) H Q = M14 14 [l0, l1, l2, l3, l4, l5, .val (.int v), l7] st H Q := w_st (i := 6) (p := isI) (show decode kb14 12 = .ok (.istore 6, 2) from by decide +kernel) rfl rfl rfl rfl rfl rfl
theorem m14_14 : M14 14 [l0, l1, l2, l3, l4, l5, .val (.int v), l7] st H Q = M14 16 [l0, l1, l2, l3, l4, l5, .val (.int v), l7] (.int v :: st) H Q := w_x (show decode kb14 14 = .ok (.iload 6, 2) from by decide +kernel) rfl
theorem m14_16 : M14 16 [l0, l1, .val (.int v), l3, l4, l5, l6, l7] st H Q = M14 17 [l0, l1, .val (.int v), l3, l4, l5, l6, l7] (.int v :: st) H Q := w_x (show decode kb14 16 = .ok (.iload_n 2, 1) from by decide +kernel) rfl
theorem m14_17 : M14 17 ls (.int y :: .int x :: st) H Q = if x < y then M14 20 ls st H Q else M14 74 ls st H Q := w_icmpN (show decode kb14 17 = .ok (.if_icmp .ge 57, 3) from by decide +kernel) (i_ge x y) rfl
theorem m14_20 : M14 20 [.val (.ref r), l1, l2, l3, l4, l5, l6, l7] st H Q = M14 21 [.val (.ref r), l1, l2, l3, l4, l5, l6, l7] (.ref r :: st) H Q := w_x (show decode kb14 20 = .ok (.aload_n 0, 1) from by decide +kernel) rfl
theorem m14_21 : M14 21 ls (.ref b :: st) (put b pre s A post) Q = M14 24 ls (.ref (b + 1) :: st) (put b pre s A post) Q := w_get (show decode kb14 21 = .ok (.getfield 7, 3) from by decide +kernel) gf_7 put_o rfl
theorem m14_24 : M14 24 [l0, l1, l2, l3, l4, l5, .val (.int v), l7] st H Q = M14 26 [l0, l1, l2, l3, l4, l5, .val (.int v), l7] (.int v :: st) H Q := w_x (show decode kb14 24 = .ok (.iload 6, 2) from by decide +kernel) rfl
theorem m14_26  : M14 26 ls (.int j :: .ref (b + 1) :: st) (put b pre s A post) Q = (inB j (A 0) ∧ M14 27 ls (.int (getA (A 0) j) :: st) (put b pre s A post) Q) := w_ild (show decode kb14 26 = .ok (.iaload, 1) from by decide +kernel) rfl put_a0
theorem m14_27u : M14 27 [l0, l1, l2, l3, l4, l5, l6, .unset] ((.int v) :: st) H Q = M14 29 [l0, l1, l2, l3, l4, l5, l6, .val (.int v)] st H Q := w_st (i := 7) (p := isI) (show decode kb14 27 = .ok (.istore 7, 2) from by decide +kernel) rfl rfl rfl rfl rfl rfl
theorem m14_27i : M14 27 [l0, l1, l2, l3, l4, l5, l6, .val (.int z)] ((.int v) :: st) H Q = M14 29 [l0, l1, l2, l3, l4, l5, l6, .val (.int v)] st H Q := w_st (i := 7) (p := isI) (show decode kb14 27 = .ok (.istore 7, 2) from by decide +kernel) rfl rfl rfl rfl rfl rfl
theorem m14_27r : M14 27 [l0, l1, l2, l3, l4, l5, l6, .val (.ref q)] ((.int v) :: st) H Q = M14 29 [l0, l1, l2, l3, l4, l5, l6, .val (.int v)] st H Q := w_st (i := 7) (p := isI) (show decode kb14 27 = .ok (.istore 7, 2) from by decide +kernel) rfl rfl rfl rfl rfl rfl
theorem m14_29 : M14 29 [.val (.ref r), l1, l2, l3, l4, l5, l6, l7] st H Q = M14 30 [.val (.ref r), l1, l2, l3, l4, l5, l6, l7] (.ref r :: st) H Q := w_x (show decode kb14 29 = .ok (.aload_n 0, 1) from by decide +kernel) rfl
theorem m14_30 : M14 30 ls (.ref b :: st) (put b pre s A post) Q = M14 33 ls (.ref (b + 4) :: st) (put b pre s A post) Q := w_get (show decode kb14 30 = .ok (.getfield 19, 3) from by decide +kernel) gf_19 put_o rfl
theorem m14_33 : M14 33 [l0, l1, l2, l3, l4, l5, .val (.int v), l7] st H Q = M14 35 [l0, l1, l2, l3, l4, l5, .val (.int v), l7] (.int v :: st) H Q := w_x (show decode kb14 33 = .ok (.iload 6, 2) from by decide +kernel) rfl
theorem m14_35  : M14 35 ls (.int j :: .ref (b + 4) :: st) (put b pre s A post) Q = (inB j (A 3) ∧ M14 36 ls (.int (getA (A 3) j) :: st) (put b pre s A post) Q) := w_ild (show decode kb14 35 = .ok (.iaload, 1) from by decide +kernel) rfl put_a3
theorem m14_36 : M14 36 [l0, l1, l2, l3, l4, .val (.int v), l6, l7] st H Q = M14 38 [l0, l1, l2, l3, l4, .val (.int v), l6, l7] (.int v :: st) H Q := w_x (show decode kb14 36 = .ok (.iload 5, 2) from by decide +kernel) rfl
theorem m14_38 : M14 38 ls (.int y :: .int x :: st) H Q = if y < x then M14 41 ls st H Q else M14 68 ls st H Q := w_icmpN (show decode kb14 38 = .ok (.if_icmp .le 30, 3) from by decide +kernel) (i_le x y) rfl
theorem m14_41 : M14 41 [l0, l1, l2, l3, l4, l5, l6, .val (.int v)] st H Q = M14 43 [l0, l1, l2, l3, l4, l5, l6, .val (.int v)] (.int v :: st) H Q := w_x (show decode kb14 41 = .ok (.iload 7, 2) from by decide +kernel) rfl
theorem m14_43 : M14 43 ls (.int x :: st) H Q = if 0 < x then M14 46 ls st H Q else M14 68 ls st H Q := w_ifN (show decode kb14 43 = .ok (.ifCond .le 25, 3) from by decide +kernel) (z_le x) rfl
theorem m14_46 : M14 46 [l0, l1, l2, l3, .val (.int v), l5, l6, l7] st H Q = M14 48 [l0, l1, l2, l3, .val (.int v), l5, l6, l7] (.int v :: st) H Q := w_x (show decode kb14 46 = .ok (.iload 4, 2) from by decide +kernel) rfl
theorem m14_48 : M14 48 [l0, l1, l2, .val (.int v), l4, l5, l6, l7] st H Q = M14 49 [l0, l1, l2, .val (.int v), l4, l5, l6, l7] (.int v :: st) H Q := w_x (show decode kb14 48 = .ok (.iload_n 3, 1) from by decide +kernel) rfl
theorem m14_49 : M14 49 [l0, l1, l2, l3, l4, l5, l6, .val (.int v)] st H Q = M14 51 [l0, l1, l2, l3, l4, l5, l6, .val (.int v)] (.int v :: st) H Q := w_x (show decode kb14 49 = .ok (.iload 7, 2) from by decide +kernel) rfl
theorem m14_51 : M14 51 ls (.int y :: .int x :: st) H Q = M14 52 ls (.int (x + y) :: st) H Q := w_x (show decode kb14 51 = .ok (.iadd, 1) from by decide +kernel) rfl
theorem m14_52 : M14 52 ls st H Q = M14 53 ls (.int 1 :: st) H Q := w_con (show decode kb14 52 = .ok (.iconst 1, 1) from by decide +kernel) rfl (by decide)
theorem m14_53 : M14 53 ls (.int y :: .int x :: st) H Q = M14 54 ls (.int (x - y) :: st) H Q := w_x (show decode kb14 53 = .ok (.isub, 1) from by decide +kernel) rfl
theorem m14_54 : M14 54 [l0, l1, l2, l3, l4, l5, l6, .val (.int v)] st H Q = M14 56 [l0, l1, l2, l3, l4, l5, l6, .val (.int v)] (.int v :: st) H Q := w_x (show decode kb14 54 = .ok (.iload 7, 2) from by decide +kernel) rfl
theorem m14_56 : M14 56 ls (.int y :: .int x :: st) H Q = (y ≠ 0 ∧ M14 57 ls (.int (x / y) :: st) H Q) := w_div (f := fun x y => x / y) (show decode kb14 56 = .ok (.idiv, 1) from by decide +kernel) (fun _ => rfl) rfl rfl
theorem m14_57 : M14 57 [.val (.ref r), l1, l2, l3, l4, l5, l6, l7] st H Q = M14 58 [.val (.ref r), l1, l2, l3, l4, l5, l6, l7] (.ref r :: st) H Q := w_x (show decode kb14 57 = .ok (.aload_n 0, 1) from by decide +kernel) rfl
theorem m14_58 : M14 58 ls (.ref b :: st) (put b pre s A post) Q = M14 61 ls (.ref (b + 3) :: st) (put b pre s A post) Q := w_get (show decode kb14 58 = .ok (.getfield 16, 3) from by decide +kernel) gf_16 put_o rfl
theorem m14_61 : M14 61 [l0, l1, l2, l3, l4, l5, .val (.int v), l7] st H Q = M14 63 [l0, l1, l2, l3, l4, l5, .val (.int v), l7] (.int v :: st) H Q := w_x (show decode kb14 61 = .ok (.iload 6, 2) from by decide +kernel) rfl
theorem m14_63  : M14 63 ls (.int j :: .ref (b + 3) :: st) (put b pre s A post) Q = (inB j (A 2) ∧ M14 64 ls (.int (getA (A 2) j) :: st) (put b pre s A post) Q) := w_ild (show decode kb14 63 = .ok (.iaload, 1) from by decide +kernel) rfl put_a2
theorem m14_64 : M14 64 ls (.int y :: .int x :: st) H Q = M14 65 ls (.int (x * y) :: st) H Q := w_x (show decode kb14 64 = .ok (.imul, 1) from by decide +kernel) rfl
theorem m14_65 : M14 65 ls (.int y :: .int x :: st) H Q = M14 66 ls (.int (x + y) :: st) H Q := w_x (show decode kb14 65 = .ok (.iadd, 1) from by decide +kernel) rfl
theorem m14_66i : M14 66 [l0, l1, l2, l3, .val (.int z), l5, l6, l7] ((.int v) :: st) H Q = M14 68 [l0, l1, l2, l3, .val (.int v), l5, l6, l7] st H Q := w_st (i := 4) (p := isI) (show decode kb14 66 = .ok (.istore 4, 2) from by decide +kernel) rfl rfl rfl rfl rfl rfl
theorem m14_68 : M14 68 [l0, l1, l2, l3, l4, l5, .val (.int v), l7] st H Q = M14 71 [l0, l1, l2, l3, l4, l5, .val (.int (v + 1)), l7] st H Q := w_iinc (show decode kb14 68 = .ok (.iinc 6 1, 3) from by decide +kernel) rfl (by decide) rfl
theorem m14_71 : M14 71 ls st H Q = M14 14 ls st H Q := w_x (show decode kb14 71 = .ok (.goto (-57), 3) from by decide +kernel) rfl
theorem m14_74 : M14 74 [l0, l1, l2, l3, .val (.int v), l5, l6, l7] st H Q = M14 76 [l0, l1, l2, l3, .val (.int v), l5, l6, l7] (.int v :: st) H Q := w_x (show decode kb14 74 = .ok (.iload 4, 2) from by decide +kernel) rfl
theorem m14_76 : M14 76 ls (.int z :: st) H Q = Q (some (.int z)) H := w_iret (show decode kb14 76 = .ok (.ireturn, 1) from by decide +kernel) rfl
theorem m15_0 : M15 0 ls st H Q = M15 1 ls (.int 0 :: st) H Q := w_con (show decode kb15 0 = .ok (.iconst 0, 1) from by decide +kernel) rfl (by decide)
theorem m15_1u : M15 1 [l0, l1, .unset] ((.int v) :: st) H Q = M15 2 [l0, l1, .val (.int v)] st H Q := w_st (i := 2) (p := isI) (show decode kb15 1 = .ok (.istore_n 2, 1) from by decide +kernel) rfl rfl rfl rfl rfl rfl
theorem m15_2 : M15 2 [l0, l1, .val (.int v)] st H Q = M15 3 [l0, l1, .val (.int v)] (.int v :: st) H Q := w_x (show decode kb15 2 = .ok (.iload_n 2, 1) from by decide +kernel) rfl
theorem m15_3 : M15 3 [l0, .val (.int v), l2] st H Q = M15 4 [l0, .val (.int v), l2] (.int v :: st) H Q := w_x (show decode kb15 3 = .ok (.iload_n 1, 1) from by decide +kernel) rfl
theorem m15_4 : M15 4 ls (.int y :: .int x :: st) H Q = if x < y then M15 7 ls st H Q else M15 37 ls st H Q := w_icmpN (show decode kb15 4 = .ok (.if_icmp .ge 33, 3) from by decide +kernel) (i_ge x y) rfl
theorem m15_7 : M15 7 [.val (.ref r), l1, l2] st H Q = M15 8 [.val (.ref r), l1, l2] (.ref r :: st) H Q := w_x (show decode kb15 7 = .ok (.aload_n 0, 1) from by decide +kernel) rfl
theorem m15_8 : M15 8 ls (.ref b :: st) (put b pre s A post) Q = M15 11 ls (.ref (b + 7) :: st) (put b pre s A post) Q := w_get (show decode kb15 8 = .ok (.getfield 28, 3) from by decide +kernel) gf_28 put_o rfl
theorem m15_11 : M15 11 [l0, l1, .val (.int v)] st H Q = M15 12 [l0, l1, .val (.int v)] (.int v :: st) H Q := w_x (show decode kb15 11 = .ok (.iload_n 2, 1) from by decide +kernel) rfl
theorem m15_12 : M15 12 [.val (.ref r), l1, l2] st H Q = M15 13 [.val (.ref r), l1, l2] (.ref r :: st) H Q := w_x (show decode kb15 12 = .ok (.aload_n 0, 1) from by decide +kernel) rfl
theorem m15_13 : M15 13 ls (.ref b :: st) (put b pre s A post) Q = M15 16 ls (.ref (b + 14) :: st) (put b pre s A post) Q := w_get (show decode kb15 13 = .ok (.getfield 49, 3) from by decide +kernel) gf_49 put_o rfl
theorem m15_16 : M15 16 [l0, l1, .val (.int v)] st H Q = M15 17 [l0, l1, .val (.int v)] (.int v :: st) H Q := w_x (show decode kb15 16 = .ok (.iload_n 2, 1) from by decide +kernel) rfl
theorem m15_17  : M15 17 ls (.int j :: .ref (b + 14) :: st) (put b pre s A post) Q = (inB j (A 13) ∧ M15 18 ls (.int (getA (A 13) j) :: st) (put b pre s A post) Q) := w_ild (show decode kb15 17 = .ok (.iaload, 1) from by decide +kernel) rfl put_a13
theorem m15_18  : M15 18 ls (.int v :: .int j :: .ref (b + 7) :: st) (put b pre s A post) Q = (inB j (A 6) ∧ M15 19 ls st (put b pre s (ou A 6 (setA (A 6) j v)) post) Q) := w_ist (show decode kb15 18 = .ok (.iastore, 1) from by decide +kernel) rfl put_a6 (Nat.zero_le _) rfl put_w6
theorem m15_19 : M15 19 [.val (.ref r), l1, l2] st H Q = M15 20 [.val (.ref r), l1, l2] (.ref r :: st) H Q := w_x (show decode kb15 19 = .ok (.aload_n 0, 1) from by decide +kernel) rfl
theorem m15_20 : M15 20 ls (.ref b :: st) (put b pre s A post) Q = M15 23 ls (.ref (b + 8) :: st) (put b pre s A post) Q := w_get (show decode kb15 20 = .ok (.getfield 31, 3) from by decide +kernel) gf_31 put_o rfl
theorem m15_23 : M15 23 [l0, l1, .val (.int v)] st H Q = M15 24 [l0, l1, .val (.int v)] (.int v :: st) H Q := w_x (show decode kb15 23 = .ok (.iload_n 2, 1) from by decide +kernel) rfl
theorem m15_24 : M15 24 [.val (.ref r), l1, l2] st H Q = M15 25 [.val (.ref r), l1, l2] (.ref r :: st) H Q := w_x (show decode kb15 24 = .ok (.aload_n 0, 1) from by decide +kernel) rfl
theorem m15_25 : M15 25 ls (.ref b :: st) (put b pre s A post) Q = M15 28 ls (.ref (b + 13) :: st) (put b pre s A post) Q := w_get (show decode kb15 25 = .ok (.getfield 46, 3) from by decide +kernel) gf_46 put_o rfl
theorem m15_28 : M15 28 [l0, l1, .val (.int v)] st H Q = M15 29 [l0, l1, .val (.int v)] (.int v :: st) H Q := w_x (show decode kb15 28 = .ok (.iload_n 2, 1) from by decide +kernel) rfl
theorem m15_29  : M15 29 ls (.int j :: .ref (b + 13) :: st) (put b pre s A post) Q = (inB j (A 12) ∧ M15 30 ls (.int (getA (A 12) j) :: st) (put b pre s A post) Q) := w_ild (show decode kb15 29 = .ok (.iaload, 1) from by decide +kernel) rfl put_a12
theorem m15_30  : M15 30 ls (.int v :: .int j :: .ref (b + 8) :: st) (put b pre s A post) Q = (inB j (A 7) ∧ M15 31 ls st (put b pre s (ou A 7 (setA (A 7) j v)) post) Q) := w_ist (show decode kb15 30 = .ok (.iastore, 1) from by decide +kernel) rfl put_a7 (Nat.zero_le _) rfl put_w7
theorem m15_31 : M15 31 [l0, l1, .val (.int v)] st H Q = M15 34 [l0, l1, .val (.int (v + 1))] st H Q := w_iinc (show decode kb15 31 = .ok (.iinc 2 1, 3) from by decide +kernel) rfl (by decide) rfl
theorem m15_34 : M15 34 ls st H Q = M15 2 ls st H Q := w_x (show decode kb15 34 = .ok (.goto (-32), 3) from by decide +kernel) rfl
theorem m15_37 : M15 37 ls st H Q = M15 38 ls (.int 0 :: st) H Q := w_con (show decode kb15 37 = .ok (.iconst 0, 1) from by decide +kernel) rfl (by decide)
theorem m15_38i : M15 38 [l0, l1, .val (.int z)] ((.int v) :: st) H Q = M15 39 [l0, l1, .val (.int v)] st H Q := w_st (i := 2) (p := isI) (show decode kb15 38 = .ok (.istore_n 2, 1) from by decide +kernel) rfl rfl rfl rfl rfl rfl
theorem m15_39 : M15 39 [l0, l1, .val (.int v)] st H Q = M15 40 [l0, l1, .val (.int v)] (.int v :: st) H Q := w_x (show decode kb15 39 = .ok (.iload_n 2, 1) from by decide +kernel) rfl
theorem m15_40 : M15 40 ls st H Q = M15 41 ls (.int 4 :: st) H Q := w_con (show decode kb15 40 = .ok (.iconst 4, 1) from by decide +kernel) rfl (by decide)
theorem m15_41 : M15 41 ls (.int y :: .int x :: st) H Q = if x < y then M15 44 ls st H Q else M15 62 ls st H Q := w_icmpN (show decode kb15 41 = .ok (.if_icmp .ge 21, 3) from by decide +kernel) (i_ge x y) rfl
theorem m15_44 : M15 44 [.val (.ref r), l1, l2] st H Q = M15 45 [.val (.ref r), l1, l2] (.ref r :: st) H Q := w_x (show decode kb15 44 = .ok (.aload_n 0, 1) from by decide +kernel) rfl
theorem m15_45 : M15 45 ls (.ref b :: st) (put b pre s A post) Q = M15 48 ls (.ref (b + 9) :: st) (put b pre s A post) Q := w_get (show decode kb15 45 = .ok (.getfield 34, 3) from by decide +kernel) gf_34 put_o rfl
theorem m15_48 : M15 48 [l0, l1, .val (.int v)] st H Q = M15 49 [l0, l1, .val (.int v)] (.int v :: st) H Q := w_x (show decode kb15 48 = .ok (.iload_n 2, 1) from by decide +kernel) rfl
theorem m15_49 : M15 49 [.val (.ref r), l1, l2] st H Q = M15 50 [.val (.ref r), l1, l2] (.ref r :: st) H Q := w_x (show decode kb15 49 = .ok (.aload_n 0, 1) from by decide +kernel) rfl
theorem m15_50 : M15 50 ls (.ref b :: st) (put b pre s A post) Q = M15 53 ls (.ref (b + 12) :: st) (put b pre s A post) Q := w_get (show decode kb15 50 = .ok (.getfield 43, 3) from by decide +kernel) gf_43 put_o rfl
theorem m15_53 : M15 53 [l0, l1, .val (.int v)] st H Q = M15 54 [l0, l1, .val (.int v)] (.int v :: st) H Q := w_x (show decode kb15 53 = .ok (.iload_n 2, 1) from by decide +kernel) rfl
theorem m15_54  : M15 54 ls (.int j :: .ref (b + 12) :: st) (put b pre s A post) Q = (inB j (A 11) ∧ M15 55 ls (.int (getA (A 11) j) :: st) (put b pre s A post) Q) := w_ild (show decode kb15 54 = .ok (.iaload, 1) from by decide +kernel) rfl put_a11
theorem m15_55  : M15 55 ls (.int v :: .int j :: .ref (b + 9) :: st) (put b pre s A post) Q = (inB j (A 8) ∧ M15 56 ls st (put b pre s (ou A 8 (setA (A 8) j v)) post) Q) := w_ist (show decode kb15 55 = .ok (.iastore, 1) from by decide +kernel) rfl put_a8 (Nat.zero_le _) rfl put_w8
theorem m15_56 : M15 56 [l0, l1, .val (.int v)] st H Q = M15 59 [l0, l1, .val (.int (v + 1))] st H Q := w_iinc (show decode kb15 56 = .ok (.iinc 2 1, 3) from by decide +kernel) rfl (by decide) rfl
theorem m15_59 : M15 59 ls st H Q = M15 39 ls st H Q := w_x (show decode kb15 59 = .ok (.goto (-20), 3) from by decide +kernel) rfl
theorem m15_62 : M15 62 ls [] H Q = Q none H := w_vret (show decode kb15 62 = .ok (.return_, 1) from by decide +kernel) rfl
theorem m16_0 : M16 0 [.val (.ref r)] st H Q = M16 1 [.val (.ref r)] (.ref r :: st) H Q := w_x (show decode kb16 0 = .ok (.aload_n 0, 1) from by decide +kernel) rfl
theorem m16_1 : M16 1 ls (.ref b :: st) (put b pre s A post) Q = M16 4 ls (.int (s 3) :: st) (put b pre s A post) Q := w_get (show decode kb16 1 = .ok (.getfield 82, 3) from by decide +kernel) gf_82 put_o rfl
theorem m16_4 : M16 4 ls (.int z :: st) H Q = Q (some (.int z)) H := w_iret (show decode kb16 4 = .ok (.ireturn, 1) from by decide +kernel) rfl
theorem m17_0 : M17 0 [.val (.ref r)] st H Q = M17 1 [.val (.ref r)] (.ref r :: st) H Q := w_x (show decode kb17 0 = .ok (.aload_n 0, 1) from by decide +kernel) rfl
theorem m17_1 : M17 1 ls (.ref b :: st) (put b pre s A post) Q = M17 4 ls (.int (s 1) :: st) (put b pre s A post) Q := w_get (show decode kb17 1 = .ok (.getfield 75, 3) from by decide +kernel) gf_75 put_o rfl
theorem m17_4 : M17 4 ls (.int z :: st) H Q = Q (some (.int z)) H := w_iret (show decode kb17 4 = .ok (.ireturn, 1) from by decide +kernel) rfl
theorem m18_0 : M18 0 [.val (.ref r), l1] st H Q = M18 1 [.val (.ref r), l1] (.ref r :: st) H Q := w_x (show decode kb18 0 = .ok (.aload_n 0, 1) from by decide +kernel) rfl
theorem m18_1 : M18 1 [l0, .val (.int v)] st H Q = M18 2 [l0, .val (.int v)] (.int v :: st) H Q := w_x (show decode kb18 1 = .ok (.iload_n 1, 1) from by decide +kernel) rfl
theorem cr18_142 : vR tables_1 dn y18 142 = some (true, y19, prog_1_method_16_code, 2, (some .boolean), 1, 0) := pR_of (cR_of (by decide +kernel) rc_19 dn_19 dn_18 (sig := ⟨[.int], some .boolean⟩) (by decide +kernel) (by decide +kernel) rfl rfl) (by decide +kernel) (by decide +kernel)
theorem m18_2 (a0 : Int32) : M18 2 ls [.int a0, .ref b] (put b pre s A post) Q = M19 0 [.val (.ref b), .val (.int a0)] [] (put b pre s A post) (fun v H1 => M18 5 ls (v.toList ++ []) H1 Q) := w_virt (as := [.int a0]) (rest := []) (a := b) (show decode kb18 2 = .ok (.invokevirtual 142, 3) from by decide +kernel) cr18_142 put_o rfl rfl (Nat.le_of_ble_eq_true rfl) (by show 2 ≤ 2; omega) rfl
theorem m18_5 : M18 5 ls (.int x :: st) H Q = if x = 0 then M18 8 ls st H Q else M18 10 ls st H Q := w_ifN (show decode kb18 5 = .ok (.ifCond .ne 5, 3) from by decide +kernel) (z_ne x) rfl
theorem m18_8 : M18 8 ls st H Q = M18 9 ls (.int (-1) :: st) H Q := w_con (show decode kb18 8 = .ok (.iconst (-1), 1) from by decide +kernel) rfl (by decide)
theorem m18_9 : M18 9 ls (.int z :: st) H Q = Q (some (.int z)) H := w_iret (show decode kb18 9 = .ok (.ireturn, 1) from by decide +kernel) rfl
theorem m18_10 : M18 10 [.val (.ref r), l1] st H Q = M18 11 [.val (.ref r), l1] (.ref r :: st) H Q := w_x (show decode kb18 10 = .ok (.aload_n 0, 1) from by decide +kernel) rfl
theorem m18_11 : M18 11 ls (.ref b :: st) (put b pre s A post) Q = M18 14 ls (.ref (b + 7) :: st) (put b pre s A post) Q := w_get (show decode kb18 11 = .ok (.getfield 28, 3) from by decide +kernel) gf_28 put_o rfl
theorem m18_14 : M18 14 [l0, .val (.int v)] st H Q = M18 15 [l0, .val (.int v)] (.int v :: st) H Q := w_x (show decode kb18 14 = .ok (.iload_n 1, 1) from by decide +kernel) rfl
theorem m18_15  : M18 15 ls (.int j :: .ref (b + 7) :: st) (put b pre s A post) Q = (inB j (A 6) ∧ M18 16 ls (.int (getA (A 6) j) :: st) (put b pre s A post) Q) := w_ild (show decode kb18 15 = .ok (.iaload, 1) from by decide +kernel) rfl put_a6
theorem m18_16 : M18 16 ls (.int z :: st) H Q = Q (some (.int z)) H := w_iret (show decode kb18 16 = .ok (.ireturn, 1) from by decide +kernel) rfl
theorem m19_0 : M19 0 [l0, .val (.int v)] st H Q = M19 1 [l0, .val (.int v)] (.int v :: st) H Q := w_x (show decode kb19 0 = .ok (.iload_n 1, 1) from by decide +kernel) rfl
theorem m19_1 : M19 1 ls (.int x :: st) H Q = if x < 0 then M19 16 ls st H Q else M19 4 ls st H Q := w_if (show decode kb19 1 = .ok (.ifCond .lt 15, 3) from by decide +kernel) (z_lt x) rfl
theorem m19_4 : M19 4 [l0, .val (.int v)] st H Q = M19 5 [l0, .val (.int v)] (.int v :: st) H Q := w_x (show decode kb19 4 = .ok (.iload_n 1, 1) from by decide +kernel) rfl
theorem m19_5 : M19 5 [.val (.ref r), l1] st H Q = M19 6 [.val (.ref r), l1] (.ref r :: st) H Q := w_x (show decode kb19 5 = .ok (.aload_n 0, 1) from by decide +kernel) rfl
theorem m19_6 : M19 6 ls (.ref b :: st) (put b pre s A post) Q = M19 9 ls (.int (s 1) :: st) (put b pre s A post) Q := w_get (show decode kb19 6 = .ok (.getfield 75, 3) from by decide +kernel) gf_75 put_o rfl
theorem m19_9 : M19 9 ls (.int y :: .int x :: st) H Q = if x < y then M19 12 ls st H Q else M19 16 ls st H Q := w_icmpN (show decode kb19 9 = .ok (.if_icmp .ge 7, 3) from by decide +kernel) (i_ge x y) rfl
theorem m19_12 : M19 12 ls st H Q = M19 13 ls (.int 1 :: st) H Q := w_con (show decode kb19 12 = .ok (.iconst 1, 1) from by decide +kernel) rfl (by decide)
theorem m19_13 : M19 13 ls st H Q = M19 17 ls st H Q := w_x (show decode kb19 13 = .ok (.goto 4, 3) from by decide +kernel) rfl
theorem m19_16 : M19 16 ls st H Q = M19 17 ls (.int 0 :: st) H Q := w_con (show decode kb19 16 = .ok (.iconst 0, 1) from by decide +kernel) rfl (by decide)
theorem m19_17 : M19 17 ls (.int z :: st) H Q = Q (some (.int (nar .boolean z))) H := w_iretN (show decode kb19 17 = .ok (.ireturn, 1) from by decide +kernel) rfl (by simp)
theorem m20_0 : M20 0 [.val (.ref r), l1] st H Q = M20 1 [.val (.ref r), l1] (.ref r :: st) H Q := w_x (show decode kb20 0 = .ok (.aload_n 0, 1) from by decide +kernel) rfl
theorem m20_1 : M20 1 [l0, .val (.int v)] st H Q = M20 2 [l0, .val (.int v)] (.int v :: st) H Q := w_x (show decode kb20 1 = .ok (.iload_n 1, 1) from by decide +kernel) rfl
theorem cr20_142 : vR tables_1 dn y20 142 = some (true, y19, prog_1_method_16_code, 2, (some .boolean), 1, 0) := pR_of (cR_of (by decide +kernel) rc_19 dn_19 dn_20 (sig := ⟨[.int], some .boolean⟩) (by decide +kernel) (by decide +kernel) rfl rfl) (by decide +kernel) (by decide +kernel)
theorem m20_2 (a0 : Int32) : M20 2 ls [.int a0, .ref b] (put b pre s A post) Q = M19 0 [.val (.ref b), .val (.int a0)] [] (put b pre s A post) (fun v H1 => M20 5 ls (v.toList ++ []) H1 Q) := w_virt (as := [.int a0]) (rest := []) (a := b) (show decode kb20 2 = .ok (.invokevirtual 142, 3) from by decide +kernel) cr20_142 put_o rfl rfl (Nat.le_of_ble_eq_true rfl) (by show 2 ≤ 2; omega) rfl
theorem m20_5 : M20 5 ls (.int x :: st) H Q = if x = 0 then M20 8 ls st H Q else M20 10 ls st H Q := w_ifN (show decode kb20 5 = .ok (.ifCond .ne 5, 3) from by decide +kernel) (z_ne x) rfl
theorem m20_8 : M20 8 ls st H Q = M20 9 ls (.int (-1) :: st) H Q := w_con (show decode kb20 8 = .ok (.iconst (-1), 1) from by decide +kernel) rfl (by decide)
theorem m20_9 : M20 9 ls (.int z :: st) H Q = Q (some (.int z)) H := w_iret (show decode kb20 9 = .ok (.ireturn, 1) from by decide +kernel) rfl
theorem m20_10 : M20 10 [.val (.ref r), l1] st H Q = M20 11 [.val (.ref r), l1] (.ref r :: st) H Q := w_x (show decode kb20 10 = .ok (.aload_n 0, 1) from by decide +kernel) rfl
theorem m20_11 : M20 11 ls (.ref b :: st) (put b pre s A post) Q = M20 14 ls (.ref (b + 8) :: st) (put b pre s A post) Q := w_get (show decode kb20 11 = .ok (.getfield 31, 3) from by decide +kernel) gf_31 put_o rfl
theorem m20_14 : M20 14 [l0, .val (.int v)] st H Q = M20 15 [l0, .val (.int v)] (.int v :: st) H Q := w_x (show decode kb20 14 = .ok (.iload_n 1, 1) from by decide +kernel) rfl
theorem m20_15  : M20 15 ls (.int j :: .ref (b + 8) :: st) (put b pre s A post) Q = (inB j (A 7) ∧ M20 16 ls (.int (getA (A 7) j) :: st) (put b pre s A post) Q) := w_ild (show decode kb20 15 = .ok (.iaload, 1) from by decide +kernel) rfl put_a7
theorem m20_16 : M20 16 ls (.int z :: st) H Q = Q (some (.int z)) H := w_iret (show decode kb20 16 = .ok (.ireturn, 1) from by decide +kernel) rfl
theorem m21_0 : M21 0 [l0, .val (.int v)] st H Q = M21 1 [l0, .val (.int v)] (.int v :: st) H Q := w_x (show decode kb21 0 = .ok (.iload_n 1, 1) from by decide +kernel) rfl
theorem m21_1 : M21 1 ls (.int x :: st) H Q = if x < 0 then M21 9 ls st H Q else M21 4 ls st H Q := w_if (show decode kb21 1 = .ok (.ifCond .lt 8, 3) from by decide +kernel) (z_lt x) rfl
theorem m21_4 : M21 4 [l0, .val (.int v)] st H Q = M21 5 [l0, .val (.int v)] (.int v :: st) H Q := w_x (show decode kb21 4 = .ok (.iload_n 1, 1) from by decide +kernel) rfl
theorem m21_5 : M21 5 ls st H Q = M21 6 ls (.int 4 :: st) H Q := w_con (show decode kb21 5 = .ok (.iconst 4, 1) from by decide +kernel) rfl (by decide)
theorem m21_6 : M21 6 ls (.int y :: .int x :: st) H Q = if x < y then M21 11 ls st H Q else M21 9 ls st H Q := w_icmp (show decode kb21 6 = .ok (.if_icmp .lt 5, 3) from by decide +kernel) (i_lt x y) rfl
theorem m21_9 : M21 9 ls st H Q = M21 10 ls (.int (-1) :: st) H Q := w_con (show decode kb21 9 = .ok (.iconst (-1), 1) from by decide +kernel) rfl (by decide)
theorem m21_10 : M21 10 ls (.int z :: st) H Q = Q (some (.int z)) H := w_iret (show decode kb21 10 = .ok (.ireturn, 1) from by decide +kernel) rfl
theorem m21_11 : M21 11 [.val (.ref r), l1] st H Q = M21 12 [.val (.ref r), l1] (.ref r :: st) H Q := w_x (show decode kb21 11 = .ok (.aload_n 0, 1) from by decide +kernel) rfl
theorem m21_12 : M21 12 ls (.ref b :: st) (put b pre s A post) Q = M21 15 ls (.ref (b + 9) :: st) (put b pre s A post) Q := w_get (show decode kb21 12 = .ok (.getfield 34, 3) from by decide +kernel) gf_34 put_o rfl
theorem m21_15 : M21 15 [l0, .val (.int v)] st H Q = M21 16 [l0, .val (.int v)] (.int v :: st) H Q := w_x (show decode kb21 15 = .ok (.iload_n 1, 1) from by decide +kernel) rfl
theorem m21_16  : M21 16 ls (.int j :: .ref (b + 9) :: st) (put b pre s A post) Q = (inB j (A 8) ∧ M21 17 ls (.int (getA (A 8) j) :: st) (put b pre s A post) Q) := w_ild (show decode kb21 16 = .ok (.iaload, 1) from by decide +kernel) rfl put_a8
theorem m21_17 : M21 17 ls (.int z :: st) H Q = Q (some (.int z)) H := w_iret (show decode kb21 17 = .ok (.ireturn, 1) from by decide +kernel) rfl
theorem m22_0 : M22 0 [.val (.ref r)] st H Q = M22 1 [.val (.ref r)] (.ref r :: st) H Q := w_x (show decode kb22 0 = .ok (.aload_n 0, 1) from by decide +kernel) rfl
theorem m22_1 : M22 1 ls (.ref b :: st) (put b pre s A post) Q = M22 4 ls (.int (s 2) :: st) (put b pre s A post) Q := w_get (show decode kb22 1 = .ok (.getfield 85, 3) from by decide +kernel) gf_85 put_o rfl
theorem m22_4 : M22 4 ls (.int z :: st) H Q = Q (some (.int z)) H := w_iret (show decode kb22 4 = .ok (.ireturn, 1) from by decide +kernel) rfl
theorem m23_0 : M23 0 [l0, .val (.int v), l2, l3] st H Q = M23 1 [l0, .val (.int v), l2, l3] (.int v :: st) H Q := w_x (show decode kb23 0 = .ok (.iload_n 1, 1) from by decide +kernel) rfl
theorem m23_1u : M23 1 [l0, l1, .unset, l3] ((.int v) :: st) H Q = M23 2 [l0, l1, .val (.int v), l3] st H Q := w_st (i := 2) (p := isI) (show decode kb23 1 = .ok (.istore_n 2, 1) from by decide +kernel) rfl rfl rfl rfl rfl rfl
theorem m23_2 : M23 2 [l0, l1, .val (.int v), l3] st H Q = M23 3 [l0, l1, .val (.int v), l3] (.int v :: st) H Q := w_x (show decode kb23 2 = .ok (.iload_n 2, 1) from by decide +kernel) rfl
theorem m23_3 : M23 3 ls (.int x :: st) H Q = if x < 0 then M23 6 ls st H Q else M23 8 ls st H Q := w_ifN (show decode kb23 3 = .ok (.ifCond .ge 5, 3) from by decide +kernel) (z_ge x) rfl
theorem m23_6 : M23 6 ls st H Q = M23 7 ls (.int 0 :: st) H Q := w_con (show decode kb23 6 = .ok (.iconst 0, 1) from by decide +kernel) rfl (by decide)
theorem m23_7i : M23 7 [l0, l1, .val (.int z), l3] ((.int v) :: st) H Q = M23 8 [l0, l1, .val (.int v), l3] st H Q := w_st (i := 2) (p := isI) (show decode kb23 7 = .ok (.istore_n 2, 1) from by decide +kernel) rfl rfl rfl rfl rfl rfl
theorem m23_8 : M23 8 [l0, l1, .val (.int v), l3] st H Q = M23 9 [l0, l1, .val (.int v), l3] (.int v :: st) H Q := w_x (show decode kb23 8 = .ok (.iload_n 2, 1) from by decide +kernel) rfl
theorem m23_9 : M23 9 ls st H Q = M23 12 ls (.int 840 :: st) H Q := w_con (show decode kb23 9 = .ok (.sipush 840, 3) from by decide +kernel) rfl (by decide)
theorem m23_12 : M23 12 ls (.int y :: .int x :: st) H Q = if y < x then M23 15 ls st H Q else M23 19 ls st H Q := w_icmpN (show decode kb23 12 = .ok (.if_icmp .le 7, 3) from by decide +kernel) (i_le x y) rfl
theorem m23_15 : M23 15 ls st H Q = M23 18 ls (.int 840 :: st) H Q := w_con (show decode kb23 15 = .ok (.sipush 840, 3) from by decide +kernel) rfl (by decide)
theorem m23_18i : M23 18 [l0, l1, .val (.int z), l3] ((.int v) :: st) H Q = M23 19 [l0, l1, .val (.int v), l3] st H Q := w_st (i := 2) (p := isI) (show decode kb23 18 = .ok (.istore_n 2, 1) from by decide +kernel) rfl rfl rfl rfl rfl rfl
theorem m23_19 : M23 19 ls st H Q = M23 20 ls (.int 0 :: st) H Q := w_con (show decode kb23 19 = .ok (.iconst 0, 1) from by decide +kernel) rfl (by decide)
theorem m23_20u : M23 20 [l0, l1, l2, .unset] ((.int v) :: st) H Q = M23 21 [l0, l1, l2, .val (.int v)] st H Q := w_st (i := 3) (p := isI) (show decode kb23 20 = .ok (.istore_n 3, 1) from by decide +kernel) rfl rfl rfl rfl rfl rfl
theorem m23_21 : M23 21 ls st H Q = M23 22 ls (.int 0 :: st) H Q := w_con (show decode kb23 21 = .ok (.iconst 0, 1) from by decide +kernel) rfl (by decide)
theorem m23_22i : M23 22 [l0, l1, l2, .val (.int z)] ((.int v) :: st) H Q = M23 23 [l0, l1, l2, .val (.int v)] st H Q := w_st (i := 3) (p := isI) (show decode kb23 22 = .ok (.istore_n 3, 1) from by decide +kernel) rfl rfl rfl rfl rfl rfl
theorem m23_23 : M23 23 [l0, l1, l2, .val (.int v)] st H Q = M23 24 [l0, l1, l2, .val (.int v)] (.int v :: st) H Q := w_x (show decode kb23 23 = .ok (.iload_n 3, 1) from by decide +kernel) rfl
theorem m23_24 : M23 24 [l0, l1, .val (.int v), l3] st H Q = M23 25 [l0, l1, .val (.int v), l3] (.int v :: st) H Q := w_x (show decode kb23 24 = .ok (.iload_n 2, 1) from by decide +kernel) rfl
theorem m23_25 : M23 25 ls (.int y :: .int x :: st) H Q = if x < y then M23 28 ls st H Q else M23 52 ls st H Q := w_icmpN (show decode kb23 25 = .ok (.if_icmp .ge 27, 3) from by decide +kernel) (i_ge x y) rfl
theorem m23_28 : M23 28 [.val (.ref r), l1, l2, l3] st H Q = M23 29 [.val (.ref r), l1, l2, l3] (.ref r :: st) H Q := w_x (show decode kb23 28 = .ok (.aload_n 0, 1) from by decide +kernel) rfl
theorem m23_29 : M23 29 ls (.ref b :: st) (put b pre s A post) Q = M23 32 ls (.int (s 9) :: st) (put b pre s A post) Q := w_get (show decode kb23 29 = .ok (.getfield 145, 3) from by decide +kernel) gf_145 put_o rfl
theorem m23_32 : M23 32 [.val (.ref r), l1, l2, l3] st H Q = M23 33 [.val (.ref r), l1, l2, l3] (.ref r :: st) H Q := w_x (show decode kb23 32 = .ok (.aload_n 0, 1) from by decide +kernel) rfl
theorem m23_33 : M23 33 ls (.ref b :: st) (put b pre s A post) Q = M23 36 ls (.int (s 2) :: st) (put b pre s A post) Q := w_get (show decode kb23 33 = .ok (.getfield 85, 3) from by decide +kernel) gf_85 put_o rfl
theorem m23_36 : M23 36 ls (.int y :: .int x :: st) H Q = if x < y then M23 42 ls st H Q else M23 39 ls st H Q := w_icmp (show decode kb23 36 = .ok (.if_icmp .lt 6, 3) from by decide +kernel) (i_lt x y) rfl
theorem m23_39 : M23 39 ls st H Q = M23 52 ls st H Q := w_x (show decode kb23 39 = .ok (.goto 13, 3) from by decide +kernel) rfl
theorem m23_42 : M23 42 [.val (.ref r), l1, l2, l3] st H Q = M23 43 [.val (.ref r), l1, l2, l3] (.ref r :: st) H Q := w_x (show decode kb23 42 = .ok (.aload_n 0, 1) from by decide +kernel) rfl
theorem cr23_151 : vR tables_1 dn y23 151 = some (true, y24, prog_1_method_25_code, 2, none, 0, 0) := pR_of (cR_of (by decide +kernel) rc_24 dn_24 dn_23 (sig := ⟨[], none⟩) (by decide +kernel) (by decide +kernel) rfl rfl) (by decide +kernel) (by decide +kernel)
theorem m23_43 : M23 43 ls [.ref b] (put b pre s A post) Q = M24 0 [.val (.ref b), .unset] [] (put b pre s A post) (fun v H1 => M23 46 ls (v.toList ++ []) H1 Q) := w_virt (as := []) (rest := []) (a := b) (show decode kb23 43 = .ok (.invokevirtual 151, 3) from by decide +kernel) cr23_151 put_o rfl rfl (Nat.le_of_ble_eq_true rfl) (by show 1 ≤ 2; omega) rfl
theorem m23_46 : M23 46 [l0, l1, l2, .val (.int v)] st H Q = M23 49 [l0, l1, l2, .val (.int (v + 1))] st H Q := w_iinc (show decode kb23 46 = .ok (.iinc 3 1, 3) from by decide +kernel) rfl (by decide) rfl
theorem m23_49 : M23 49 ls st H Q = M23 23 ls st H Q := w_x (show decode kb23 49 = .ok (.goto (-26), 3) from by decide +kernel) rfl
theorem m23_52 : M23 52 [l0, l1, l2, .val (.int v)] st H Q = M23 53 [l0, l1, l2, .val (.int v)] (.int v :: st) H Q := w_x (show decode kb23 52 = .ok (.iload_n 3, 1) from by decide +kernel) rfl
theorem m23_53 : M23 53 ls (.int z :: st) H Q = Q (some (.int z)) H := w_iret (show decode kb23 53 = .ok (.ireturn, 1) from by decide +kernel) rfl
theorem m24_0 : M24 0 [.val (.ref r), l1] st H Q = M24 1 [.val (.ref r), l1] (.ref r :: st) H Q := w_x (show decode kb24 0 = .ok (.aload_n 0, 1) from by decide +kernel) rfl
theorem cr24_154 : vR tables_1 dn y24 154 = some (true, y25, prog_1_method_26_code, 3, none, 0, 18) := pR_of (cR_of (by decide +kernel) rc_25 dn_25 dn_24 (sig := ⟨[], none⟩) (by decide +kernel) (by decide +kernel) rfl rfl) (by decide +kernel) (by decide +kernel)
theorem m24_1 : M24 1 ls [.ref b] (put b pre s A post) Q = M25 0 [.val (.ref b), .unset, .unset] [] (put b pre s A post) (fun v H1 => M24 4 ls (v.toList ++ []) H1 Q) := w_virt (as := []) (rest := []) (a := b) (show decode kb24 1 = .ok (.invokevirtual 154, 3) from by decide +kernel) cr24_154 put_o rfl rfl (Nat.le_of_ble_eq_true rfl) (by show 1 ≤ 3; omega) rfl
theorem m24_4 : M24 4 [.val (.ref r), l1] st H Q = M24 5 [.val (.ref r), l1] (.ref r :: st) H Q := w_x (show decode kb24 4 = .ok (.aload_n 0, 1) from by decide +kernel) rfl
theorem cr24_157 : vR tables_1 dn y24 157 = some (true, y26, prog_1_method_28_code, 7, (some .int), 0, 0) := pR_of (cR_of (by decide +kernel) rc_26 dn_26 dn_24 (sig := ⟨[], some .int⟩) (by decide +kernel) (by decide +kernel) rfl rfl) (by decide +kernel) (by decide +kernel)
theorem m24_5 : M24 5 ls [.ref b] (put b pre s A post) Q = M26 0 [.val (.ref b), .unset, .unset, .unset, .unset, .unset, .unset] [] (put b pre s A post) (fun v H1 => M24 8 ls (v.toList ++ []) H1 Q) := w_virt (as := []) (rest := []) (a := b) (show decode kb24 5 = .ok (.invokevirtual 157, 3) from by decide +kernel) cr24_157 put_o rfl rfl (Nat.le_of_ble_eq_true rfl) (by show 1 ≤ 7; omega) rfl
theorem m24_8u : M24 8 [l0, .unset] ((.int v) :: st) H Q = M24 9 [l0, .val (.int v)] st H Q := w_st (i := 1) (p := isI) (show decode kb24 8 = .ok (.istore_n 1, 1) from by decide +kernel) rfl rfl rfl rfl rfl rfl
theorem m24_9 : M24 9 [l0, .val (.int v)] st H Q = M24 10 [l0, .val (.int v)] (.int v :: st) H Q := w_x (show decode kb24 9 = .ok (.iload_n 1, 1) from by decide +kernel) rfl
theorem m24_10 : M24 10 ls (.int x :: st) H Q = if x < 0 then M24 18 ls st H Q else M24 13 ls st H Q := w_if (show decode kb24 10 = .ok (.ifCond .lt 8, 3) from by decide +kernel) (z_lt x) rfl
theorem m24_13 : M24 13 [.val (.ref r), l1] st H Q = M24 14 [.val (.ref r), l1] (.ref r :: st) H Q := w_x (show decode kb24 13 = .ok (.aload_n 0, 1) from by decide +kernel) rfl
theorem m24_14 : M24 14 [l0, .val (.int v)] st H Q = M24 15 [l0, .val (.int v)] (.int v :: st) H Q := w_x (show decode kb24 14 = .ok (.iload_n 1, 1) from by decide +kernel) rfl
theorem cr24_161 : vR tables_1 dn y24 161 = some (true, y28, prog_1_method_30_code, 3, none, 1, 4) := pR_of (cR_of (by decide +kernel) rc_28 dn_28 dn_24 (sig := ⟨[.int], none⟩) (by decide +kernel) (by decide +kernel) rfl rfl) (by decide +kernel) (by decide +kernel)
theorem m24_15 (a0 : Int32) : M24 15 ls [.int a0, .ref b] (put b pre s A post) Q = M28 0 [.val (.ref b), .val (.int a0), .unset] [] (put b pre s A post) (fun v H1 => M24 18 ls (v.toList ++ []) H1 Q) := w_virt (as := [.int a0]) (rest := []) (a := b) (show decode kb24 15 = .ok (.invokevirtual 161, 3) from by decide +kernel) cr24_161 put_o rfl rfl (Nat.le_of_ble_eq_true rfl) (by show 2 ≤ 3; omega) rfl
theorem m24_18 : M24 18 [.val (.ref r), l1] st H Q = M24 19 [.val (.ref r), l1] (.ref r :: st) H Q := w_x (show decode kb24 18 = .ok (.aload_n 0, 1) from by decide +kernel) rfl
theorem m24_19 : M24 19 ls ((.ref r) :: st) H Q = M24 20 ls ((.ref r) :: (.ref r) :: st) H Q := w_x (show decode kb24 19 = .ok (.dup, 1) from by decide +kernel) rfl
theorem m24_20 : M24 20 ls (.ref b :: st) (put b pre s A post) Q = M24 23 ls (.int (s 9) :: st) (put b pre s A post) Q := w_get (show decode kb24 20 = .ok (.getfield 145, 3) from by decide +kernel) gf_145 put_o rfl
theorem m24_23 : M24 23 ls st H Q = M24 24 ls (.int 1 :: st) H Q := w_con (show decode kb24 23 = .ok (.iconst 1, 1) from by decide +kernel) rfl (by decide)
theorem m24_24 : M24 24 ls (.int y :: .int x :: st) H Q = M24 25 ls (.int (x + y) :: st) H Q := w_x (show decode kb24 24 = .ok (.iadd, 1) from by decide +kernel) rfl
theorem pf24_145 : pfR tables_1 y24.cls y24.name 145 = some ("ResponseTimeGate", 25, .int) := by decide +kernel
theorem m24_25 : M24 25 ls (.int v :: .ref b :: st) (put b pre s A post) Q = M24 28 ls st (put b pre (ou s 9 v) A post) Q := w_put (show decode kb24 25 = .ok (.putfield 145, 3) from by decide +kernel) pf24_145 put_o (Nat.zero_le _) (by show 25 < 31; omega) rfl put_s9
theorem m24_28 : M24 28 [.val (.ref r), l1] st H Q = M24 29 [.val (.ref r), l1] (.ref r :: st) H Q := w_x (show decode kb24 28 = .ok (.aload_n 0, 1) from by decide +kernel) rfl
theorem cr24_164 : vR tables_1 dn y24 164 = some (true, y31, prog_1_method_32_code, 2, none, 0, 19) := pR_of (cR_of (by decide +kernel) rc_31 dn_31 dn_24 (sig := ⟨[], none⟩) (by decide +kernel) (by decide +kernel) rfl rfl) (by decide +kernel) (by decide +kernel)
theorem m24_29 : M24 29 ls [.ref b] (put b pre s A post) Q = M31 0 [.val (.ref b), .unset] [] (put b pre s A post) (fun v H1 => M24 32 ls (v.toList ++ []) H1 Q) := w_virt (as := []) (rest := []) (a := b) (show decode kb24 29 = .ok (.invokevirtual 164, 3) from by decide +kernel) cr24_164 put_o rfl rfl (Nat.le_of_ble_eq_true rfl) (by show 1 ≤ 2; omega) rfl
theorem m24_32 : M24 32 ls [] H Q = Q none H := w_vret (show decode kb24 32 = .ok (.return_, 1) from by decide +kernel) rfl
theorem m25_0 : M25 0 ls st H Q = M25 1 ls (.int 0 :: st) H Q := w_con (show decode kb25 0 = .ok (.iconst 0, 1) from by decide +kernel) rfl (by decide)
theorem m25_1u : M25 1 [l0, .unset, l2] ((.int v) :: st) H Q = M25 2 [l0, .val (.int v), l2] st H Q := w_st (i := 1) (p := isI) (show decode kb25 1 = .ok (.istore_n 1, 1) from by decide +kernel) rfl rfl rfl rfl rfl rfl
theorem m25_2 : M25 2 [l0, .val (.int v), l2] st H Q = M25 3 [l0, .val (.int v), l2] (.int v :: st) H Q := w_x (show decode kb25 2 = .ok (.iload_n 1, 1) from by decide +kernel) rfl
theorem m25_3 : M25 3 [.val (.ref r), l1, l2] st H Q = M25 4 [.val (.ref r), l1, l2] (.ref r :: st) H Q := w_x (show decode kb25 3 = .ok (.aload_n 0, 1) from by decide +kernel) rfl
theorem m25_4 : M25 4 ls (.ref b :: st) (put b pre s A post) Q = M25 7 ls (.int (s 1) :: st) (put b pre s A post) Q := w_get (show decode kb25 4 = .ok (.getfield 75, 3) from by decide +kernel) gf_75 put_o rfl
theorem m25_7 : M25 7 ls (.int y :: .int x :: st) H Q = if x < y then M25 10 ls st H Q else M25 67 ls st H Q := w_icmpN (show decode kb25 7 = .ok (.if_icmp .ge 60, 3) from by decide +kernel) (i_ge x y) rfl
theorem m25_10 : M25 10 [.val (.ref r), l1, l2] st H Q = M25 11 [.val (.ref r), l1, l2] (.ref r :: st) H Q := w_x (show decode kb25 10 = .ok (.aload_n 0, 1) from by decide +kernel) rfl
theorem m25_11 : M25 11 ls (.ref b :: st) (put b pre s A post) Q = M25 14 ls (.ref (b + 1) :: st) (put b pre s A post) Q := w_get (show decode kb25 11 = .ok (.getfield 7, 3) from by decide +kernel) gf_7 put_o rfl
theorem m25_14 : M25 14 [l0, .val (.int v), l2] st H Q = M25 15 [l0, .val (.int v), l2] (.int v :: st) H Q := w_x (show decode kb25 14 = .ok (.iload_n 1, 1) from by decide +kernel) rfl
theorem m25_15  : M25 15 ls (.int j :: .ref (b + 1) :: st) (put b pre s A post) Q = (inB j (A 0) ∧ M25 16 ls (.int (getA (A 0) j) :: st) (put b pre s A post) Q) := w_ild (show decode kb25 15 = .ok (.iaload, 1) from by decide +kernel) rfl put_a0
theorem m25_16u : M25 16 [l0, l1, .unset] ((.int v) :: st) H Q = M25 17 [l0, l1, .val (.int v)] st H Q := w_st (i := 2) (p := isI) (show decode kb25 16 = .ok (.istore_n 2, 1) from by decide +kernel) rfl rfl rfl rfl rfl rfl
theorem m25_16i : M25 16 [l0, l1, .val (.int z)] ((.int v) :: st) H Q = M25 17 [l0, l1, .val (.int v)] st H Q := w_st (i := 2) (p := isI) (show decode kb25 16 = .ok (.istore_n 2, 1) from by decide +kernel) rfl rfl rfl rfl rfl rfl
theorem m25_16r : M25 16 [l0, l1, .val (.ref q)] ((.int v) :: st) H Q = M25 17 [l0, l1, .val (.int v)] st H Q := w_st (i := 2) (p := isI) (show decode kb25 16 = .ok (.istore_n 2, 1) from by decide +kernel) rfl rfl rfl rfl rfl rfl
theorem m25_17 : M25 17 [l0, l1, .val (.int v)] st H Q = M25 18 [l0, l1, .val (.int v)] (.int v :: st) H Q := w_x (show decode kb25 17 = .ok (.iload_n 2, 1) from by decide +kernel) rfl
theorem m25_18 : M25 18 ls (.int x :: st) H Q = if 0 < x then M25 21 ls st H Q else M25 61 ls st H Q := w_ifN (show decode kb25 18 = .ok (.ifCond .le 43, 3) from by decide +kernel) (z_le x) rfl
theorem m25_21 : M25 21 [.val (.ref r), l1, l2] st H Q = M25 22 [.val (.ref r), l1, l2] (.ref r :: st) H Q := w_x (show decode kb25 21 = .ok (.aload_n 0, 1) from by decide +kernel) rfl
theorem m25_22 : M25 22 ls (.ref b :: st) (put b pre s A post) Q = M25 25 ls (.int (s 9) :: st) (put b pre s A post) Q := w_get (show decode kb25 22 = .ok (.getfield 145, 3) from by decide +kernel) gf_145 put_o rfl
theorem m25_25 : M25 25 [l0, l1, .val (.int v)] st H Q = M25 26 [l0, l1, .val (.int v)] (.int v :: st) H Q := w_x (show decode kb25 25 = .ok (.iload_n 2, 1) from by decide +kernel) rfl
theorem m25_26 : M25 26 ls (.int y :: .int x :: st) H Q = (y ≠ 0 ∧ M25 27 ls (.int (x % y) :: st) H Q) := w_div (f := fun x y => x % y) (show decode kb25 26 = .ok (.irem, 1) from by decide +kernel) (fun _ => rfl) rfl rfl
theorem m25_27 : M25 27 ls (.int x :: st) H Q = if x = 0 then M25 30 ls st H Q else M25 61 ls st H Q := w_ifN (show decode kb25 27 = .ok (.ifCond .ne 34, 3) from by decide +kernel) (z_ne x) rfl
theorem m25_30 : M25 30 [.val (.ref r), l1, l2] st H Q = M25 31 [.val (.ref r), l1, l2] (.ref r :: st) H Q := w_x (show decode kb25 30 = .ok (.aload_n 0, 1) from by decide +kernel) rfl
theorem m25_31 : M25 31 ls (.ref b :: st) (put b pre s A post) Q = M25 34 ls (.ref (b + 15) :: st) (put b pre s A post) Q := w_get (show decode kb25 31 = .ok (.getfield 52, 3) from by decide +kernel) gf_52 put_o rfl
theorem m25_34 : M25 34 [l0, .val (.int v), l2] st H Q = M25 35 [l0, .val (.int v), l2] (.int v :: st) H Q := w_x (show decode kb25 34 = .ok (.iload_n 1, 1) from by decide +kernel) rfl
theorem m25_35 : M25 35 ls st H Q = M25 36 ls (.int 1 :: st) H Q := w_con (show decode kb25 35 = .ok (.iconst 1, 1) from by decide +kernel) rfl (by decide)
theorem m25_36  : M25 36 ls (.int v :: .int j :: .ref (b + 15) :: st) (put b pre s A post) Q = (inB j (A 14) ∧ M25 37 ls st (put b pre s (ou A 14 (setA (A 14) j (nar .boolean v))) post) Q) := w_ist (show decode kb25 36 = .ok (.bastore, 1) from by decide +kernel) rfl put_a14 (Nat.zero_le _) rfl put_w14
theorem m25_37 : M25 37 [.val (.ref r), l1, l2] st H Q = M25 38 [.val (.ref r), l1, l2] (.ref r :: st) H Q := w_x (show decode kb25 37 = .ok (.aload_n 0, 1) from by decide +kernel) rfl
theorem m25_38 : M25 38 ls (.ref b :: st) (put b pre s A post) Q = M25 41 ls (.ref (b + 16) :: st) (put b pre s A post) Q := w_get (show decode kb25 38 = .ok (.getfield 56, 3) from by decide +kernel) gf_56 put_o rfl
theorem m25_41 : M25 41 [l0, .val (.int v), l2] st H Q = M25 42 [l0, .val (.int v), l2] (.int v :: st) H Q := w_x (show decode kb25 41 = .ok (.iload_n 1, 1) from by decide +kernel) rfl
theorem m25_42 : M25 42 [.val (.ref r), l1, l2] st H Q = M25 43 [.val (.ref r), l1, l2] (.ref r :: st) H Q := w_x (show decode kb25 42 = .ok (.aload_n 0, 1) from by decide +kernel) rfl
theorem m25_43 : M25 43 ls (.ref b :: st) (put b pre s A post) Q = M25 46 ls (.int (s 9) :: st) (put b pre s A post) Q := w_get (show decode kb25 43 = .ok (.getfield 145, 3) from by decide +kernel) gf_145 put_o rfl
theorem m25_46  : M25 46 ls (.int v :: .int j :: .ref (b + 16) :: st) (put b pre s A post) Q = (inB j (A 15) ∧ M25 47 ls st (put b pre s (ou A 15 (setA (A 15) j v)) post) Q) := w_ist (show decode kb25 46 = .ok (.iastore, 1) from by decide +kernel) rfl put_a15 (Nat.zero_le _) rfl put_w15
theorem m25_47 : M25 47 [.val (.ref r), l1, l2] st H Q = M25 48 [.val (.ref r), l1, l2] (.ref r :: st) H Q := w_x (show decode kb25 47 = .ok (.aload_n 0, 1) from by decide +kernel) rfl
theorem m25_48 : M25 48 ls (.ref b :: st) (put b pre s A post) Q = M25 51 ls (.ref (b + 17) :: st) (put b pre s A post) Q := w_get (show decode kb25 48 = .ok (.getfield 59, 3) from by decide +kernel) gf_59 put_o rfl
theorem m25_51 : M25 51 [l0, .val (.int v), l2] st H Q = M25 52 [l0, .val (.int v), l2] (.int v :: st) H Q := w_x (show decode kb25 51 = .ok (.iload_n 1, 1) from by decide +kernel) rfl
theorem m25_52 : M25 52 ls st H Q = M25 53 ls (.int 0 :: st) H Q := w_con (show decode kb25 52 = .ok (.iconst 0, 1) from by decide +kernel) rfl (by decide)
theorem m25_53  : M25 53 ls (.int v :: .int j :: .ref (b + 17) :: st) (put b pre s A post) Q = (inB j (A 16) ∧ M25 54 ls st (put b pre s (ou A 16 (setA (A 16) j v)) post) Q) := w_ist (show decode kb25 53 = .ok (.iastore, 1) from by decide +kernel) rfl put_a16 (Nat.zero_le _) rfl put_w16
theorem m25_54 : M25 54 [.val (.ref r), l1, l2] st H Q = M25 55 [.val (.ref r), l1, l2] (.ref r :: st) H Q := w_x (show decode kb25 54 = .ok (.aload_n 0, 1) from by decide +kernel) rfl
theorem m25_55 : M25 55 ls (.ref b :: st) (put b pre s A post) Q = M25 58 ls (.ref (b + 18) :: st) (put b pre s A post) Q := w_get (show decode kb25 55 = .ok (.getfield 62, 3) from by decide +kernel) gf_62 put_o rfl
theorem m25_58 : M25 58 [l0, .val (.int v), l2] st H Q = M25 59 [l0, .val (.int v), l2] (.int v :: st) H Q := w_x (show decode kb25 58 = .ok (.iload_n 1, 1) from by decide +kernel) rfl
theorem m25_59 : M25 59 ls st H Q = M25 60 ls (.int (-1) :: st) H Q := w_con (show decode kb25 59 = .ok (.iconst (-1), 1) from by decide +kernel) rfl (by decide)
theorem m25_60  : M25 60 ls (.int v :: .int j :: .ref (b + 18) :: st) (put b pre s A post) Q = (inB j (A 17) ∧ M25 61 ls st (put b pre s (ou A 17 (setA (A 17) j v)) post) Q) := w_ist (show decode kb25 60 = .ok (.iastore, 1) from by decide +kernel) rfl put_a17 (Nat.zero_le _) rfl put_w17
theorem m25_61 : M25 61 [l0, .val (.int v), l2] st H Q = M25 64 [l0, .val (.int (v + 1)), l2] st H Q := w_iinc (show decode kb25 61 = .ok (.iinc 1 1, 3) from by decide +kernel) rfl (by decide) rfl
theorem m25_64 : M25 64 ls st H Q = M25 2 ls st H Q := w_x (show decode kb25 64 = .ok (.goto (-62), 3) from by decide +kernel) rfl
theorem m25_67 : M25 67 ls [] H Q = Q none H := w_vret (show decode kb25 67 = .ok (.return_, 1) from by decide +kernel) rfl
theorem m26_0 : M26 0 ls st H Q = M26 1 ls (.int (-1) :: st) H Q := w_con (show decode kb26 0 = .ok (.iconst (-1), 1) from by decide +kernel) rfl (by decide)
theorem m26_1u : M26 1 [l0, .unset, l2, l3, l4, l5, l6] ((.int v) :: st) H Q = M26 2 [l0, .val (.int v), l2, l3, l4, l5, l6] st H Q := w_st (i := 1) (p := isI) (show decode kb26 1 = .ok (.istore_n 1, 1) from by decide +kernel) rfl rfl rfl rfl rfl rfl
theorem m26_2 : M26 2 ls st H Q = M26 3 ls (.int (-1) :: st) H Q := w_con (show decode kb26 2 = .ok (.iconst (-1), 1) from by decide +kernel) rfl (by decide)
theorem m26_3u : M26 3 [l0, l1, .unset, l3, l4, l5, l6] ((.int v) :: st) H Q = M26 4 [l0, l1, .val (.int v), l3, l4, l5, l6] st H Q := w_st (i := 2) (p := isI) (show decode kb26 3 = .ok (.istore_n 2, 1) from by decide +kernel) rfl rfl rfl rfl rfl rfl
theorem m26_4 : M26 4 ls st H Q = M26 5 ls (.int 0 :: st) H Q := w_con (show decode kb26 4 = .ok (.iconst 0, 1) from by decide +kernel) rfl (by decide)
theorem m26_5u : M26 5 [l0, l1, l2, .unset, l4, l5, l6] ((.int v) :: st) H Q = M26 6 [l0, l1, l2, .val (.int v), l4, l5, l6] st H Q := w_st (i := 3) (p := isI) (show decode kb26 5 = .ok (.istore_n 3, 1) from by decide +kernel) rfl rfl rfl rfl rfl rfl
theorem m26_6 : M26 6 ls st H Q = M26 7 ls (.int 0 :: st) H Q := w_con (show decode kb26 6 = .ok (.iconst 0, 1) from by decide +kernel) rfl (by decide)
theorem m26_7u : M26 7 [l0, l1, l2, l3, .unset, l5, l6] ((.int v) :: st) H Q = M26 9 [l0, l1, l2, l3, .val (.int v), l5, l6] st H Q := w_st (i := 4) (p := isI) (show decode kb26 7 = .ok (.istore 4, 2) from by decide +kernel) rfl rfl rfl rfl rfl rfl
theorem m26_9 : M26 9 [l0, l1, l2, l3, .val (.int v), l5, l6] st H Q = M26 11 [l0, l1, l2, l3, .val (.int v), l5, l6] (.int v :: st) H Q := w_x (show decode kb26 9 = .ok (.iload 4, 2) from by decide +kernel) rfl
theorem m26_11 : M26 11 [.val (.ref r), l1, l2, l3, l4, l5, l6] st H Q = M26 12 [.val (.ref r), l1, l2, l3, l4, l5, l6] (.ref r :: st) H Q := w_x (show decode kb26 11 = .ok (.aload_n 0, 1) from by decide +kernel) rfl
theorem m26_12 : M26 12 ls (.ref b :: st) (put b pre s A post) Q = M26 15 ls (.int (s 1) :: st) (put b pre s A post) Q := w_get (show decode kb26 12 = .ok (.getfield 75, 3) from by decide +kernel) gf_75 put_o rfl
theorem m26_15 : M26 15 ls (.int y :: .int x :: st) H Q = if x < y then M26 18 ls st H Q else M26 96 ls st H Q := w_icmpN (show decode kb26 15 = .ok (.if_icmp .ge 81, 3) from by decide +kernel) (i_ge x y) rfl
theorem m26_18 : M26 18 [.val (.ref r), l1, l2, l3, l4, l5, l6] st H Q = M26 19 [.val (.ref r), l1, l2, l3, l4, l5, l6] (.ref r :: st) H Q := w_x (show decode kb26 18 = .ok (.aload_n 0, 1) from by decide +kernel) rfl
theorem m26_19 : M26 19 ls (.ref b :: st) (put b pre s A post) Q = M26 22 ls (.ref (b + 15) :: st) (put b pre s A post) Q := w_get (show decode kb26 19 = .ok (.getfield 52, 3) from by decide +kernel) gf_52 put_o rfl
theorem m26_22 : M26 22 [l0, l1, l2, l3, .val (.int v), l5, l6] st H Q = M26 24 [l0, l1, l2, l3, .val (.int v), l5, l6] (.int v :: st) H Q := w_x (show decode kb26 22 = .ok (.iload 4, 2) from by decide +kernel) rfl
theorem m26_24  : M26 24 ls (.int j :: .ref (b + 15) :: st) (put b pre s A post) Q = (inB j (A 14) ∧ M26 25 ls (.int (getA (A 14) j) :: st) (put b pre s A post) Q) := w_ild (show decode kb26 24 = .ok (.baload, 1) from by decide +kernel) rfl put_a14
theorem m26_25 : M26 25 ls (.int x :: st) H Q = if x = 0 then M26 28 ls st H Q else M26 31 ls st H Q := w_ifN (show decode kb26 25 = .ok (.ifCond .ne 6, 3) from by decide +kernel) (z_ne x) rfl
theorem m26_28 : M26 28 ls st H Q = M26 90 ls st H Q := w_x (show decode kb26 28 = .ok (.goto 62, 3) from by decide +kernel) rfl
theorem m26_31 : M26 31 [.val (.ref r), l1, l2, l3, l4, l5, l6] st H Q = M26 32 [.val (.ref r), l1, l2, l3, l4, l5, l6] (.ref r :: st) H Q := w_x (show decode kb26 31 = .ok (.aload_n 0, 1) from by decide +kernel) rfl
theorem m26_32 : M26 32 [l0, l1, l2, l3, .val (.int v), l5, l6] st H Q = M26 34 [l0, l1, l2, l3, .val (.int v), l5, l6] (.int v :: st) H Q := w_x (show decode kb26 32 = .ok (.iload 4, 2) from by decide +kernel) rfl
theorem cr26_167 : vR tables_1 dn y26 167 = some (true, y27, prog_1_method_27_code, 3, (some .int), 1, 0) := pR_of (cR_of (by decide +kernel) rc_27 dn_27 dn_26 (sig := ⟨[.int], some .int⟩) (by decide +kernel) (by decide +kernel) rfl rfl) (by decide +kernel) (by decide +kernel)
theorem m26_34 (a0 : Int32) : M26 34 ls [.int a0, .ref b] (put b pre s A post) Q = M27 0 [.val (.ref b), .val (.int a0), .unset] [] (put b pre s A post) (fun v H1 => M26 37 ls (v.toList ++ []) H1 Q) := w_virt (as := [.int a0]) (rest := []) (a := b) (show decode kb26 34 = .ok (.invokevirtual 167, 3) from by decide +kernel) cr26_167 put_o rfl rfl (Nat.le_of_ble_eq_true rfl) (by show 2 ≤ 3; omega) rfl
theorem m26_37u : M26 37 [l0, l1, l2, l3, l4, .unset, l6] ((.int v) :: st) H Q = M26 39 [l0, l1, l2, l3, l4, .val (.int v), l6] st H Q := w_st (i := 5) (p := isI) (show decode kb26 37 = .ok (.istore 5, 2) from by decide +kernel) rfl rfl rfl rfl rfl rfl
theorem m26_37i : M26 37 [l0, l1, l2, l3, l4, .val (.int z), l6] ((.int v) :: st) H Q = M26 39 [l0, l1, l2, l3, l4, .val (.int v), l6] st H Q := w_st (i := 5) (p := isI) (show decode kb26 37 = .ok (.istore 5, 2) from by decide +kernel) rfl rfl rfl rfl rfl rfl
theorem m26_37r : M26 37 [l0, l1, l2, l3, l4, .val (.ref q), l6] ((.int v) :: st) H Q = M26 39 [l0, l1, l2, l3, l4, .val (.int v), l6] st H Q := w_st (i := 5) (p := isI) (show decode kb26 37 = .ok (.istore 5, 2) from by decide +kernel) rfl rfl rfl rfl rfl rfl
theorem m26_39 : M26 39 [.val (.ref r), l1, l2, l3, l4, l5, l6] st H Q = M26 40 [.val (.ref r), l1, l2, l3, l4, l5, l6] (.ref r :: st) H Q := w_x (show decode kb26 39 = .ok (.aload_n 0, 1) from by decide +kernel) rfl
theorem m26_40 : M26 40 ls (.ref b :: st) (put b pre s A post) Q = M26 43 ls (.ref (b + 18) :: st) (put b pre s A post) Q := w_get (show decode kb26 40 = .ok (.getfield 62, 3) from by decide +kernel) gf_62 put_o rfl
theorem m26_43 : M26 43 [l0, l1, l2, l3, .val (.int v), l5, l6] st H Q = M26 45 [l0, l1, l2, l3, .val (.int v), l5, l6] (.int v :: st) H Q := w_x (show decode kb26 43 = .ok (.iload 4, 2) from by decide +kernel) rfl
theorem m26_45  : M26 45 ls (.int j :: .ref (b + 18) :: st) (put b pre s A post) Q = (inB j (A 17) ∧ M26 46 ls (.int (getA (A 17) j) :: st) (put b pre s A post) Q) := w_ild (show decode kb26 45 = .ok (.iaload, 1) from by decide +kernel) rfl put_a17
theorem m26_46 : M26 46 ls (.int x :: st) H Q = if x < 0 then M26 53 ls st H Q else M26 49 ls st H Q := w_if (show decode kb26 46 = .ok (.ifCond .lt 7, 3) from by decide +kernel) (z_lt x) rfl
theorem m26_49 : M26 49 ls st H Q = M26 50 ls (.int 1 :: st) H Q := w_con (show decode kb26 49 = .ok (.iconst 1, 1) from by decide +kernel) rfl (by decide)
theorem m26_50 : M26 50 ls st H Q = M26 54 ls st H Q := w_x (show decode kb26 50 = .ok (.goto 4, 3) from by decide +kernel) rfl
theorem m26_53 : M26 53 ls st H Q = M26 54 ls (.int 0 :: st) H Q := w_con (show decode kb26 53 = .ok (.iconst 0, 1) from by decide +kernel) rfl (by decide)
theorem m26_54u : M26 54 [l0, l1, l2, l3, l4, l5, .unset] ((.int v) :: st) H Q = M26 56 [l0, l1, l2, l3, l4, l5, .val (.int v)] st H Q := w_st (i := 6) (p := isI) (show decode kb26 54 = .ok (.istore 6, 2) from by decide +kernel) rfl rfl rfl rfl rfl rfl
theorem m26_54i : M26 54 [l0, l1, l2, l3, l4, l5, .val (.int z)] ((.int v) :: st) H Q = M26 56 [l0, l1, l2, l3, l4, l5, .val (.int v)] st H Q := w_st (i := 6) (p := isI) (show decode kb26 54 = .ok (.istore 6, 2) from by decide +kernel) rfl rfl rfl rfl rfl rfl
theorem m26_54r : M26 54 [l0, l1, l2, l3, l4, l5, .val (.ref q)] ((.int v) :: st) H Q = M26 56 [l0, l1, l2, l3, l4, l5, .val (.int v)] st H Q := w_st (i := 6) (p := isI) (show decode kb26 54 = .ok (.istore 6, 2) from by decide +kernel) rfl rfl rfl rfl rfl rfl
theorem m26_56 : M26 56 [l0, .val (.int v), l2, l3, l4, l5, l6] st H Q = M26 57 [l0, .val (.int v), l2, l3, l4, l5, l6] (.int v :: st) H Q := w_x (show decode kb26 56 = .ok (.iload_n 1, 1) from by decide +kernel) rfl
theorem m26_57 : M26 57 ls (.int x :: st) H Q = if x < 0 then M26 81 ls st H Q else M26 60 ls st H Q := w_if (show decode kb26 57 = .ok (.ifCond .lt 24, 3) from by decide +kernel) (z_lt x) rfl
theorem m26_60 : M26 60 [l0, l1, l2, l3, l4, .val (.int v), l6] st H Q = M26 62 [l0, l1, l2, l3, l4, .val (.int v), l6] (.int v :: st) H Q := w_x (show decode kb26 60 = .ok (.iload 5, 2) from by decide +kernel) rfl
theorem m26_62 : M26 62 [l0, l1, .val (.int v), l3, l4, l5, l6] st H Q = M26 63 [l0, l1, .val (.int v), l3, l4, l5, l6] (.int v :: st) H Q := w_x (show decode kb26 62 = .ok (.iload_n 2, 1) from by decide +kernel) rfl
theorem m26_63 : M26 63 ls (.int y :: .int x :: st) H Q = if y < x then M26 81 ls st H Q else M26 66 ls st H Q := w_icmp (show decode kb26 63 = .ok (.if_icmp .gt 18, 3) from by decide +kernel) (i_gt x y) rfl
theorem m26_66 : M26 66 [l0, l1, l2, l3, l4, .val (.int v), l6] st H Q = M26 68 [l0, l1, l2, l3, l4, .val (.int v), l6] (.int v :: st) H Q := w_x (show decode kb26 66 = .ok (.iload 5, 2) from by decide +kernel) rfl
theorem m26_68 : M26 68 [l0, l1, .val (.int v), l3, l4, l5, l6] st H Q = M26 69 [l0, l1, .val (.int v), l3, l4, l5, l6] (.int v :: st) H Q := w_x (show decode kb26 68 = .ok (.iload_n 2, 1) from by decide +kernel) rfl
theorem m26_69 : M26 69 ls (.int y :: .int x :: st) H Q = if x = y then M26 72 ls st H Q else M26 90 ls st H Q := w_icmpN (show decode kb26 69 = .ok (.if_icmp .ne 21, 3) from by decide +kernel) (i_ne x y) rfl
theorem m26_72 : M26 72 [l0, l1, l2, l3, l4, l5, .val (.int v)] st H Q = M26 74 [l0, l1, l2, l3, l4, l5, .val (.int v)] (.int v :: st) H Q := w_x (show decode kb26 72 = .ok (.iload 6, 2) from by decide +kernel) rfl
theorem m26_74 : M26 74 ls (.int x :: st) H Q = if x = 0 then M26 90 ls st H Q else M26 77 ls st H Q := w_if (show decode kb26 74 = .ok (.ifCond .eq 16, 3) from by decide +kernel) (z_eq x) rfl
theorem m26_77 : M26 77 [l0, l1, l2, .val (.int v), l4, l5, l6] st H Q = M26 78 [l0, l1, l2, .val (.int v), l4, l5, l6] (.int v :: st) H Q := w_x (show decode kb26 77 = .ok (.iload_n 3, 1) from by decide +kernel) rfl
theorem m26_78 : M26 78 ls (.int x :: st) H Q = if x = 0 then M26 81 ls st H Q else M26 90 ls st H Q := w_ifN (show decode kb26 78 = .ok (.ifCond .ne 12, 3) from by decide +kernel) (z_ne x) rfl
theorem m26_81 : M26 81 [l0, l1, l2, l3, .val (.int v), l5, l6] st H Q = M26 83 [l0, l1, l2, l3, .val (.int v), l5, l6] (.int v :: st) H Q := w_x (show decode kb26 81 = .ok (.iload 4, 2) from by decide +kernel) rfl
theorem m26_83i : M26 83 [l0, .val (.int z), l2, l3, l4, l5, l6] ((.int v) :: st) H Q = M26 84 [l0, .val (.int v), l2, l3, l4, l5, l6] st H Q := w_st (i := 1) (p := isI) (show decode kb26 83 = .ok (.istore_n 1, 1) from by decide +kernel) rfl rfl rfl rfl rfl rfl
theorem m26_84 : M26 84 [l0, l1, l2, l3, l4, .val (.int v), l6] st H Q = M26 86 [l0, l1, l2, l3, l4, .val (.int v), l6] (.int v :: st) H Q := w_x (show decode kb26 84 = .ok (.iload 5, 2) from by decide +kernel) rfl
theorem m26_86i : M26 86 [l0, l1, .val (.int z), l3, l4, l5, l6] ((.int v) :: st) H Q = M26 87 [l0, l1, .val (.int v), l3, l4, l5, l6] st H Q := w_st (i := 2) (p := isI) (show decode kb26 86 = .ok (.istore_n 2, 1) from by decide +kernel) rfl rfl rfl rfl rfl rfl
theorem m26_87 : M26 87 [l0, l1, l2, l3, l4, l5, .val (.int v)] st H Q = M26 89 [l0, l1, l2, l3, l4, l5, .val (.int v)] (.int v :: st) H Q := w_x (show decode kb26 87 = .ok (.iload 6, 2) from by decide +kernel) rfl
theorem m26_89i : M26 89 [l0, l1, l2, .val (.int z), l4, l5, l6] ((.int v) :: st) H Q = M26 90 [l0, l1, l2, .val (.int v), l4, l5, l6] st H Q := w_st (i := 3) (p := isI) (show decode kb26 89 = .ok (.istore_n 3, 1) from by decide +kernel) rfl rfl rfl rfl rfl rfl
theorem m26_90 : M26 90 [l0, l1, l2, l3, .val (.int v), l5, l6] st H Q = M26 93 [l0, l1, l2, l3, .val (.int (v + 1)), l5, l6] st H Q := w_iinc (show decode kb26 90 = .ok (.iinc 4 1, 3) from by decide +kernel) rfl (by decide) rfl
theorem m26_93 : M26 93 ls st H Q = M26 9 ls st H Q := w_x (show decode kb26 93 = .ok (.goto (-84), 3) from by decide +kernel) rfl
theorem m26_96 : M26 96 [l0, .val (.int v), l2, l3, l4, l5, l6] st H Q = M26 97 [l0, .val (.int v), l2, l3, l4, l5, l6] (.int v :: st) H Q := w_x (show decode kb26 96 = .ok (.iload_n 1, 1) from by decide +kernel) rfl
theorem m26_97 : M26 97 ls (.int z :: st) H Q = Q (some (.int z)) H := w_iret (show decode kb26 97 = .ok (.ireturn, 1) from by decide +kernel) rfl
theorem m27_0 : M27 0 [.val (.ref r), l1, l2] st H Q = M27 1 [.val (.ref r), l1, l2] (.ref r :: st) H Q := w_x (show decode kb27 0 = .ok (.aload_n 0, 1) from by decide +kernel) rfl
theorem m27_1 : M27 1 ls (.ref b :: st) (put b pre s A post) Q = M27 4 ls (.ref (b + 18) :: st) (put b pre s A post) Q := w_get (show decode kb27 1 = .ok (.getfield 62, 3) from by decide +kernel) gf_62 put_o rfl
theorem m27_4 : M27 4 [l0, .val (.int v), l2] st H Q = M27 5 [l0, .val (.int v), l2] (.int v :: st) H Q := w_x (show decode kb27 4 = .ok (.iload_n 1, 1) from by decide +kernel) rfl
theorem m27_5  : M27 5 ls (.int j :: .ref (b + 18) :: st) (put b pre s A post) Q = (inB j (A 17) ∧ M27 6 ls (.int (getA (A 17) j) :: st) (put b pre s A post) Q) := w_ild (show decode kb27 5 = .ok (.iaload, 1) from by decide +kernel) rfl put_a17
theorem m27_6u : M27 6 [l0, l1, .unset] ((.int v) :: st) H Q = M27 7 [l0, l1, .val (.int v)] st H Q := w_st (i := 2) (p := isI) (show decode kb27 6 = .ok (.istore_n 2, 1) from by decide +kernel) rfl rfl rfl rfl rfl rfl
theorem m27_7 : M27 7 [l0, l1, .val (.int v)] st H Q = M27 8 [l0, l1, .val (.int v)] (.int v :: st) H Q := w_x (show decode kb27 7 = .ok (.iload_n 2, 1) from by decide +kernel) rfl
theorem m27_8 : M27 8 ls (.int x :: st) H Q = if x < 0 then M27 23 ls st H Q else M27 11 ls st H Q := w_if (show decode kb27 8 = .ok (.ifCond .lt 15, 3) from by decide +kernel) (z_lt x) rfl
theorem m27_11 : M27 11 [l0, l1, .val (.int v)] st H Q = M27 12 [l0, l1, .val (.int v)] (.int v :: st) H Q := w_x (show decode kb27 11 = .ok (.iload_n 2, 1) from by decide +kernel) rfl
theorem m27_12 : M27 12 ls st H Q = M27 13 ls (.int 4 :: st) H Q := w_con (show decode kb27 12 = .ok (.iconst 4, 1) from by decide +kernel) rfl (by decide)
theorem m27_13 : M27 13 ls (.int y :: .int x :: st) H Q = if x < y then M27 16 ls st H Q else M27 23 ls st H Q := w_icmpN (show decode kb27 13 = .ok (.if_icmp .ge 10, 3) from by decide +kernel) (i_ge x y) rfl
theorem m27_16 : M27 16 [.val (.ref r), l1, l2] st H Q = M27 17 [.val (.ref r), l1, l2] (.ref r :: st) H Q := w_x (show decode kb27 16 = .ok (.aload_n 0, 1) from by decide +kernel) rfl
theorem m27_17 : M27 17 ls (.ref b :: st) (put b pre s A post) Q = M27 20 ls (.ref (b + 9) :: st) (put b pre s A post) Q := w_get (show decode kb27 17 = .ok (.getfield 34, 3) from by decide +kernel) gf_34 put_o rfl
theorem m27_20 : M27 20 [l0, l1, .val (.int v)] st H Q = M27 21 [l0, l1, .val (.int v)] (.int v :: st) H Q := w_x (show decode kb27 20 = .ok (.iload_n 2, 1) from by decide +kernel) rfl
theorem m27_21  : M27 21 ls (.int j :: .ref (b + 9) :: st) (put b pre s A post) Q = (inB j (A 8) ∧ M27 22 ls (.int (getA (A 8) j) :: st) (put b pre s A post) Q) := w_ild (show decode kb27 21 = .ok (.iaload, 1) from by decide +kernel) rfl put_a8
theorem m27_22 : M27 22 ls (.int z :: st) H Q = Q (some (.int z)) H := w_iret (show decode kb27 22 = .ok (.ireturn, 1) from by decide +kernel) rfl
theorem m27_23 : M27 23 [.val (.ref r), l1, l2] st H Q = M27 24 [.val (.ref r), l1, l2] (.ref r :: st) H Q := w_x (show decode kb27 23 = .ok (.aload_n 0, 1) from by decide +kernel) rfl
theorem m27_24 : M27 24 ls (.ref b :: st) (put b pre s A post) Q = M27 27 ls (.ref (b + 4) :: st) (put b pre s A post) Q := w_get (show decode kb27 24 = .ok (.getfield 19, 3) from by decide +kernel) gf_19 put_o rfl
theorem m27_27 : M27 27 [l0, .val (.int v), l2] st H Q = M27 28 [l0, .val (.int v), l2] (.int v :: st) H Q := w_x (show decode kb27 27 = .ok (.iload_n 1, 1) from by decide +kernel) rfl
theorem m27_28  : M27 28 ls (.int j :: .ref (b + 4) :: st) (put b pre s A post) Q = (inB j (A 3) ∧ M27 29 ls (.int (getA (A 3) j) :: st) (put b pre s A post) Q) := w_ild (show decode kb27 28 = .ok (.iaload, 1) from by decide +kernel) rfl put_a3
theorem m27_29 : M27 29 ls (.int z :: st) H Q = Q (some (.int z)) H := w_iret (show decode kb27 29 = .ok (.ireturn, 1) from by decide +kernel) rfl
theorem m28_0 : M28 0 [.val (.ref r), l1, l2] st H Q = M28 1 [.val (.ref r), l1, l2] (.ref r :: st) H Q := w_x (show decode kb28 0 = .ok (.aload_n 0, 1) from by decide +kernel) rfl
theorem m28_1 : M28 1 [l0, .val (.int v), l2] st H Q = M28 2 [l0, .val (.int v), l2] (.int v :: st) H Q := w_x (show decode kb28 1 = .ok (.iload_n 1, 1) from by decide +kernel) rfl
theorem cr28_170 : vR tables_1 dn y28 170 = some (true, y29, prog_1_method_29_code, 3, none, 1, 0) := pR_of (cR_of (by decide +kernel) rc_29 dn_29 dn_28 (sig := ⟨[.int], none⟩) (by decide +kernel) (by decide +kernel) rfl rfl) (by decide +kernel) (by decide +kernel)
theorem m28_2 (a0 : Int32) : M28 2 ls [.int a0, .ref b] (put b pre s A post) Q = M29 0 [.val (.ref b), .val (.int a0), .unset] [] (put b pre s A post) (fun v H1 => M28 5 ls (v.toList ++ []) H1 Q) := w_virt (as := [.int a0]) (rest := []) (a := b) (show decode kb28 2 = .ok (.invokevirtual 170, 3) from by decide +kernel) cr28_170 put_o rfl rfl (Nat.le_of_ble_eq_true rfl) (by show 2 ≤ 3; omega) rfl
theorem m28_5 : M28 5 [.val (.ref r), l1, l2] st H Q = M28 6 [.val (.ref r), l1, l2] (.ref r :: st) H Q := w_x (show decode kb28 5 = .ok (.aload_n 0, 1) from by decide +kernel) rfl
theorem m28_6 : M28 6 ls (.ref b :: st) (put b pre s A post) Q = M28 9 ls (.ref (b + 17) :: st) (put b pre s A post) Q := w_get (show decode kb28 6 = .ok (.getfield 59, 3) from by decide +kernel) gf_59 put_o rfl
theorem m28_9 : M28 9 [l0, .val (.int v), l2] st H Q = M28 10 [l0, .val (.int v), l2] (.int v :: st) H Q := w_x (show decode kb28 9 = .ok (.iload_n 1, 1) from by decide +kernel) rfl
theorem m28_10 : M28 10 [.val (.ref r), l1, l2] st H Q = M28 11 [.val (.ref r), l1, l2] (.ref r :: st) H Q := w_x (show decode kb28 10 = .ok (.aload_n 0, 1) from by decide +kernel) rfl
theorem m28_11 : M28 11 ls (.ref b :: st) (put b pre s A post) Q = M28 14 ls (.ref (b + 17) :: st) (put b pre s A post) Q := w_get (show decode kb28 11 = .ok (.getfield 59, 3) from by decide +kernel) gf_59 put_o rfl
theorem m28_14 : M28 14 [l0, .val (.int v), l2] st H Q = M28 15 [l0, .val (.int v), l2] (.int v :: st) H Q := w_x (show decode kb28 14 = .ok (.iload_n 1, 1) from by decide +kernel) rfl
theorem m28_15  : M28 15 ls (.int j :: .ref (b + 17) :: st) (put b pre s A post) Q = (inB j (A 16) ∧ M28 16 ls (.int (getA (A 16) j) :: st) (put b pre s A post) Q) := w_ild (show decode kb28 15 = .ok (.iaload, 1) from by decide +kernel) rfl put_a16
theorem m28_16 : M28 16 ls st H Q = M28 17 ls (.int 1 :: st) H Q := w_con (show decode kb28 16 = .ok (.iconst 1, 1) from by decide +kernel) rfl (by decide)
theorem m28_17 : M28 17 ls (.int y :: .int x :: st) H Q = M28 18 ls (.int (x + y) :: st) H Q := w_x (show decode kb28 17 = .ok (.iadd, 1) from by decide +kernel) rfl
theorem m28_18  : M28 18 ls (.int v :: .int j :: .ref (b + 17) :: st) (put b pre s A post) Q = (inB j (A 16) ∧ M28 19 ls st (put b pre s (ou A 16 (setA (A 16) j v)) post) Q) := w_ist (show decode kb28 18 = .ok (.iastore, 1) from by decide +kernel) rfl put_a16 (Nat.zero_le _) rfl put_w16
theorem m28_19 : M28 19 [.val (.ref r), l1, l2] st H Q = M28 20 [.val (.ref r), l1, l2] (.ref r :: st) H Q := w_x (show decode kb28 19 = .ok (.aload_n 0, 1) from by decide +kernel) rfl
theorem m28_20 : M28 20 ls (.ref b :: st) (put b pre s A post) Q = M28 23 ls (.ref (b + 18) :: st) (put b pre s A post) Q := w_get (show decode kb28 20 = .ok (.getfield 62, 3) from by decide +kernel) gf_62 put_o rfl
theorem m28_23 : M28 23 [l0, .val (.int v), l2] st H Q = M28 24 [l0, .val (.int v), l2] (.int v :: st) H Q := w_x (show decode kb28 23 = .ok (.iload_n 1, 1) from by decide +kernel) rfl
theorem m28_24  : M28 24 ls (.int j :: .ref (b + 18) :: st) (put b pre s A post) Q = (inB j (A 17) ∧ M28 25 ls (.int (getA (A 17) j) :: st) (put b pre s A post) Q) := w_ild (show decode kb28 24 = .ok (.iaload, 1) from by decide +kernel) rfl put_a17
theorem m28_25u : M28 25 [l0, l1, .unset] ((.int v) :: st) H Q = M28 26 [l0, l1, .val (.int v)] st H Q := w_st (i := 2) (p := isI) (show decode kb28 25 = .ok (.istore_n 2, 1) from by decide +kernel) rfl rfl rfl rfl rfl rfl
theorem m28_26 : M28 26 [l0, l1, .val (.int v)] st H Q = M28 27 [l0, l1, .val (.int v)] (.int v :: st) H Q := w_x (show decode kb28 26 = .ok (.iload_n 2, 1) from by decide +kernel) rfl
theorem m28_27 : M28 27 ls (.int x :: st) H Q = if x < 0 then M28 72 ls st H Q else M28 30 ls st H Q := w_if (show decode kb28 27 = .ok (.ifCond .lt 45, 3) from by decide +kernel) (z_lt x) rfl
theorem m28_30 : M28 30 [l0, l1, .val (.int v)] st H Q = M28 31 [l0, l1, .val (.int v)] (.int v :: st) H Q := w_x (show decode kb28 30 = .ok (.iload_n 2, 1) from by decide +kernel) rfl
theorem m28_31 : M28 31 ls st H Q = M28 32 ls (.int 4 :: st) H Q := w_con (show decode kb28 31 = .ok (.iconst 4, 1) from by decide +kernel) rfl (by decide)
theorem m28_32 : M28 32 ls (.int y :: .int x :: st) H Q = if x < y then M28 35 ls st H Q else M28 72 ls st H Q := w_icmpN (show decode kb28 32 = .ok (.if_icmp .ge 40, 3) from by decide +kernel) (i_ge x y) rfl
theorem m28_35 : M28 35 [.val (.ref r), l1, l2] st H Q = M28 36 [.val (.ref r), l1, l2] (.ref r :: st) H Q := w_x (show decode kb28 35 = .ok (.aload_n 0, 1) from by decide +kernel) rfl
theorem m28_36 : M28 36 ls (.ref b :: st) (put b pre s A post) Q = M28 39 ls (.ref (b + 17) :: st) (put b pre s A post) Q := w_get (show decode kb28 36 = .ok (.getfield 59, 3) from by decide +kernel) gf_59 put_o rfl
theorem m28_39 : M28 39 [l0, .val (.int v), l2] st H Q = M28 40 [l0, .val (.int v), l2] (.int v :: st) H Q := w_x (show decode kb28 39 = .ok (.iload_n 1, 1) from by decide +kernel) rfl
theorem m28_40  : M28 40 ls (.int j :: .ref (b + 17) :: st) (put b pre s A post) Q = (inB j (A 16) ∧ M28 41 ls (.int (getA (A 16) j) :: st) (put b pre s A post) Q) := w_ild (show decode kb28 40 = .ok (.iaload, 1) from by decide +kernel) rfl put_a16
theorem m28_41 : M28 41 [.val (.ref r), l1, l2] st H Q = M28 42 [.val (.ref r), l1, l2] (.ref r :: st) H Q := w_x (show decode kb28 41 = .ok (.aload_n 0, 1) from by decide +kernel) rfl
theorem m28_42 : M28 42 ls (.ref b :: st) (put b pre s A post) Q = M28 45 ls (.ref (b + 5) :: st) (put b pre s A post) Q := w_get (show decode kb28 42 = .ok (.getfield 22, 3) from by decide +kernel) gf_22 put_o rfl
theorem m28_45 : M28 45 [l0, .val (.int v), l2] st H Q = M28 46 [l0, .val (.int v), l2] (.int v :: st) H Q := w_x (show decode kb28 45 = .ok (.iload_n 1, 1) from by decide +kernel) rfl
theorem m28_46 : M28 46 ls st H Q = M28 47 ls (.int 4 :: st) H Q := w_con (show decode kb28 46 = .ok (.iconst 4, 1) from by decide +kernel) rfl (by decide)
theorem m28_47 : M28 47 ls (.int y :: .int x :: st) H Q = M28 48 ls (.int (x * y) :: st) H Q := w_x (show decode kb28 47 = .ok (.imul, 1) from by decide +kernel) rfl
theorem m28_48 : M28 48 [l0, l1, .val (.int v)] st H Q = M28 49 [l0, l1, .val (.int v)] (.int v :: st) H Q := w_x (show decode kb28 48 = .ok (.iload_n 2, 1) from by decide +kernel) rfl
theorem m28_49 : M28 49 ls (.int y :: .int x :: st) H Q = M28 50 ls (.int (x + y) :: st) H Q := w_x (show decode kb28 49 = .ok (.iadd, 1) from by decide +kernel) rfl
theorem m28_50  : M28 50 ls (.int j :: .ref (b + 5) :: st) (put b pre s A post) Q = (inB j (A 4) ∧ M28 51 ls (.int (getA (A 4) j) :: st) (put b pre s A post) Q) := w_ild (show decode kb28 50 = .ok (.iaload, 1) from by decide +kernel) rfl put_a4
theorem m28_51 : M28 51 [.val (.ref r), l1, l2] st H Q = M28 52 [.val (.ref r), l1, l2] (.ref r :: st) H Q := w_x (show decode kb28 51 = .ok (.aload_n 0, 1) from by decide +kernel) rfl
theorem m28_52 : M28 52 ls (.ref b :: st) (put b pre s A post) Q = M28 55 ls (.ref (b + 6) :: st) (put b pre s A post) Q := w_get (show decode kb28 52 = .ok (.getfield 25, 3) from by decide +kernel) gf_25 put_o rfl
theorem m28_55 : M28 55 [l0, .val (.int v), l2] st H Q = M28 56 [l0, .val (.int v), l2] (.int v :: st) H Q := w_x (show decode kb28 55 = .ok (.iload_n 1, 1) from by decide +kernel) rfl
theorem m28_56 : M28 56 ls st H Q = M28 57 ls (.int 4 :: st) H Q := w_con (show decode kb28 56 = .ok (.iconst 4, 1) from by decide +kernel) rfl (by decide)
theorem m28_57 : M28 57 ls (.int y :: .int x :: st) H Q = M28 58 ls (.int (x * y) :: st) H Q := w_x (show decode kb28 57 = .ok (.imul, 1) from by decide +kernel) rfl
theorem m28_58 : M28 58 [l0, l1, .val (.int v)] st H Q = M28 59 [l0, l1, .val (.int v)] (.int v :: st) H Q := w_x (show decode kb28 58 = .ok (.iload_n 2, 1) from by decide +kernel) rfl
theorem m28_59 : M28 59 ls (.int y :: .int x :: st) H Q = M28 60 ls (.int (x + y) :: st) H Q := w_x (show decode kb28 59 = .ok (.iadd, 1) from by decide +kernel) rfl
theorem m28_60  : M28 60 ls (.int j :: .ref (b + 6) :: st) (put b pre s A post) Q = (inB j (A 5) ∧ M28 61 ls (.int (getA (A 5) j) :: st) (put b pre s A post) Q) := w_ild (show decode kb28 60 = .ok (.iaload, 1) from by decide +kernel) rfl put_a5
theorem m28_61 : M28 61 ls (.int y :: .int x :: st) H Q = M28 62 ls (.int (x + y) :: st) H Q := w_x (show decode kb28 61 = .ok (.iadd, 1) from by decide +kernel) rfl
theorem m28_62 : M28 62 ls (.int y :: .int x :: st) H Q = if x = y then M28 65 ls st H Q else M28 72 ls st H Q := w_icmpN (show decode kb28 62 = .ok (.if_icmp .ne 10, 3) from by decide +kernel) (i_ne x y) rfl
theorem m28_65 : M28 65 [.val (.ref r), l1, l2] st H Q = M28 66 [.val (.ref r), l1, l2] (.ref r :: st) H Q := w_x (show decode kb28 65 = .ok (.aload_n 0, 1) from by decide +kernel) rfl
theorem m28_66 : M28 66 ls (.ref b :: st) (put b pre s A post) Q = M28 69 ls (.ref (b + 18) :: st) (put b pre s A post) Q := w_get (show decode kb28 66 = .ok (.getfield 62, 3) from by decide +kernel) gf_62 put_o rfl
theorem m28_69 : M28 69 [l0, .val (.int v), l2] st H Q = M28 70 [l0, .val (.int v), l2] (.int v :: st) H Q := w_x (show decode kb28 69 = .ok (.iload_n 1, 1) from by decide +kernel) rfl
theorem m28_70 : M28 70 ls st H Q = M28 71 ls (.int (-1) :: st) H Q := w_con (show decode kb28 70 = .ok (.iconst (-1), 1) from by decide +kernel) rfl (by decide)
theorem m28_71  : M28 71 ls (.int v :: .int j :: .ref (b + 18) :: st) (put b pre s A post) Q = (inB j (A 17) ∧ M28 72 ls st (put b pre s (ou A 17 (setA (A 17) j v)) post) Q) := w_ist (show decode kb28 71 = .ok (.iastore, 1) from by decide +kernel) rfl put_a17 (Nat.zero_le _) rfl put_w17
theorem m28_72 : M28 72 [.val (.ref r), l1, l2] st H Q = M28 73 [.val (.ref r), l1, l2] (.ref r :: st) H Q := w_x (show decode kb28 72 = .ok (.aload_n 0, 1) from by decide +kernel) rfl
theorem m28_73 : M28 73 ls (.ref b :: st) (put b pre s A post) Q = M28 76 ls (.ref (b + 17) :: st) (put b pre s A post) Q := w_get (show decode kb28 73 = .ok (.getfield 59, 3) from by decide +kernel) gf_59 put_o rfl
theorem m28_76 : M28 76 [l0, .val (.int v), l2] st H Q = M28 77 [l0, .val (.int v), l2] (.int v :: st) H Q := w_x (show decode kb28 76 = .ok (.iload_n 1, 1) from by decide +kernel) rfl
theorem m28_77  : M28 77 ls (.int j :: .ref (b + 17) :: st) (put b pre s A post) Q = (inB j (A 16) ∧ M28 78 ls (.int (getA (A 16) j) :: st) (put b pre s A post) Q) := w_ild (show decode kb28 77 = .ok (.iaload, 1) from by decide +kernel) rfl put_a16
theorem m28_78 : M28 78 [.val (.ref r), l1, l2] st H Q = M28 79 [.val (.ref r), l1, l2] (.ref r :: st) H Q := w_x (show decode kb28 78 = .ok (.aload_n 0, 1) from by decide +kernel) rfl
theorem m28_79 : M28 79 ls (.ref b :: st) (put b pre s A post) Q = M28 82 ls (.ref (b + 3) :: st) (put b pre s A post) Q := w_get (show decode kb28 79 = .ok (.getfield 16, 3) from by decide +kernel) gf_16 put_o rfl
theorem m28_82 : M28 82 [l0, .val (.int v), l2] st H Q = M28 83 [l0, .val (.int v), l2] (.int v :: st) H Q := w_x (show decode kb28 82 = .ok (.iload_n 1, 1) from by decide +kernel) rfl
theorem m28_83  : M28 83 ls (.int j :: .ref (b + 3) :: st) (put b pre s A post) Q = (inB j (A 2) ∧ M28 84 ls (.int (getA (A 2) j) :: st) (put b pre s A post) Q) := w_ild (show decode kb28 83 = .ok (.iaload, 1) from by decide +kernel) rfl put_a2
theorem m28_84 : M28 84 ls (.int y :: .int x :: st) H Q = if x = y then M28 87 ls st H Q else M28 92 ls st H Q := w_icmpN (show decode kb28 84 = .ok (.if_icmp .ne 8, 3) from by decide +kernel) (i_ne x y) rfl
theorem m28_87 : M28 87 [.val (.ref r), l1, l2] st H Q = M28 88 [.val (.ref r), l1, l2] (.ref r :: st) H Q := w_x (show decode kb28 87 = .ok (.aload_n 0, 1) from by decide +kernel) rfl
theorem m28_88 : M28 88 [l0, .val (.int v), l2] st H Q = M28 89 [l0, .val (.int v), l2] (.int v :: st) H Q := w_x (show decode kb28 88 = .ok (.iload_n 1, 1) from by decide +kernel) rfl
theorem cr28_173 : vR tables_1 dn y28 173 = some (true, y30, prog_1_method_31_code, 3, none, 1, 0) := pR_of (cR_of (by decide +kernel) rc_30 dn_30 dn_28 (sig := ⟨[.int], none⟩) (by decide +kernel) (by decide +kernel) rfl rfl) (by decide +kernel) (by decide +kernel)
theorem m28_89 (a0 : Int32) : M28 89 ls [.int a0, .ref b] (put b pre s A post) Q = M30 0 [.val (.ref b), .val (.int a0), .unset] [] (put b pre s A post) (fun v H1 => M28 92 ls (v.toList ++ []) H1 Q) := w_virt (as := [.int a0]) (rest := []) (a := b) (show decode kb28 89 = .ok (.invokevirtual 173, 3) from by decide +kernel) cr28_173 put_o rfl rfl (Nat.le_of_ble_eq_true rfl) (by show 2 ≤ 3; omega) rfl
theorem m28_92 : M28 92 ls [] H Q = Q none H := w_vret (show decode kb28 92 = .ok (.return_, 1) from by decide +kernel) rfl
theorem m29_0 : M29 0 [.val (.ref r), l1, l2] st H Q = M29 1 [.val (.ref r), l1, l2] (.ref r :: st) H Q := w_x (show decode kb29 0 = .ok (.aload_n 0, 1) from by decide +kernel) rfl
theorem m29_1 : M29 1 ls (.ref b :: st) (put b pre s A post) Q = M29 4 ls (.ref (b + 18) :: st) (put b pre s A post) Q := w_get (show decode kb29 1 = .ok (.getfield 62, 3) from by decide +kernel) gf_62 put_o rfl
theorem m29_4 : M29 4 [l0, .val (.int v), l2] st H Q = M29 5 [l0, .val (.int v), l2] (.int v :: st) H Q := w_x (show decode kb29 4 = .ok (.iload_n 1, 1) from by decide +kernel) rfl
theorem m29_5  : M29 5 ls (.int j :: .ref (b + 18) :: st) (put b pre s A post) Q = (inB j (A 17) ∧ M29 6 ls (.int (getA (A 17) j) :: st) (put b pre s A post) Q) := w_ild (show decode kb29 5 = .ok (.iaload, 1) from by decide +kernel) rfl put_a17
theorem m29_6 : M29 6 ls (.int x :: st) H Q = if x < 0 then M29 10 ls st H Q else M29 9 ls st H Q := w_if (show decode kb29 6 = .ok (.ifCond .lt 4, 3) from by decide +kernel) (z_lt x) rfl
theorem m29_9 : M29 9 ls [] H Q = Q none H := w_vret (show decode kb29 9 = .ok (.return_, 1) from by decide +kernel) rfl
theorem m29_10 : M29 10 ls st H Q = M29 11 ls (.int 0 :: st) H Q := w_con (show decode kb29 10 = .ok (.iconst 0, 1) from by decide +kernel) rfl (by decide)
theorem m29_11u : M29 11 [l0, l1, .unset] ((.int v) :: st) H Q = M29 12 [l0, l1, .val (.int v)] st H Q := w_st (i := 2) (p := isI) (show decode kb29 11 = .ok (.istore_n 2, 1) from by decide +kernel) rfl rfl rfl rfl rfl rfl
theorem m29_12 : M29 12 [l0, l1, .val (.int v)] st H Q = M29 13 [l0, l1, .val (.int v)] (.int v :: st) H Q := w_x (show decode kb29 12 = .ok (.iload_n 2, 1) from by decide +kernel) rfl
theorem m29_13 : M29 13 ls st H Q = M29 14 ls (.int 4 :: st) H Q := w_con (show decode kb29 13 = .ok (.iconst 4, 1) from by decide +kernel) rfl (by decide)
theorem m29_14 : M29 14 ls (.int y :: .int x :: st) H Q = if x < y then M29 17 ls st H Q else M29 63 ls st H Q := w_icmpN (show decode kb29 14 = .ok (.if_icmp .ge 49, 3) from by decide +kernel) (i_ge x y) rfl
theorem m29_17 : M29 17 [.val (.ref r), l1, l2] st H Q = M29 18 [.val (.ref r), l1, l2] (.ref r :: st) H Q := w_x (show decode kb29 17 = .ok (.aload_n 0, 1) from by decide +kernel) rfl
theorem m29_18 : M29 18 ls (.ref b :: st) (put b pre s A post) Q = M29 21 ls (.ref (b + 6) :: st) (put b pre s A post) Q := w_get (show decode kb29 18 = .ok (.getfield 25, 3) from by decide +kernel) gf_25 put_o rfl
theorem m29_21 : M29 21 [l0, .val (.int v), l2] st H Q = M29 22 [l0, .val (.int v), l2] (.int v :: st) H Q := w_x (show decode kb29 21 = .ok (.iload_n 1, 1) from by decide +kernel) rfl
theorem m29_22 : M29 22 ls st H Q = M29 23 ls (.int 4 :: st) H Q := w_con (show decode kb29 22 = .ok (.iconst 4, 1) from by decide +kernel) rfl (by decide)
theorem m29_23 : M29 23 ls (.int y :: .int x :: st) H Q = M29 24 ls (.int (x * y) :: st) H Q := w_x (show decode kb29 23 = .ok (.imul, 1) from by decide +kernel) rfl
theorem m29_24 : M29 24 [l0, l1, .val (.int v)] st H Q = M29 25 [l0, l1, .val (.int v)] (.int v :: st) H Q := w_x (show decode kb29 24 = .ok (.iload_n 2, 1) from by decide +kernel) rfl
theorem m29_25 : M29 25 ls (.int y :: .int x :: st) H Q = M29 26 ls (.int (x + y) :: st) H Q := w_x (show decode kb29 25 = .ok (.iadd, 1) from by decide +kernel) rfl
theorem m29_26  : M29 26 ls (.int j :: .ref (b + 6) :: st) (put b pre s A post) Q = (inB j (A 5) ∧ M29 27 ls (.int (getA (A 5) j) :: st) (put b pre s A post) Q) := w_ild (show decode kb29 26 = .ok (.iaload, 1) from by decide +kernel) rfl put_a5
theorem m29_27 : M29 27 ls (.int x :: st) H Q = if 0 < x then M29 30 ls st H Q else M29 57 ls st H Q := w_ifN (show decode kb29 27 = .ok (.ifCond .le 30, 3) from by decide +kernel) (z_le x) rfl
theorem m29_30 : M29 30 [.val (.ref r), l1, l2] st H Q = M29 31 [.val (.ref r), l1, l2] (.ref r :: st) H Q := w_x (show decode kb29 30 = .ok (.aload_n 0, 1) from by decide +kernel) rfl
theorem m29_31 : M29 31 ls (.ref b :: st) (put b pre s A post) Q = M29 34 ls (.ref (b + 5) :: st) (put b pre s A post) Q := w_get (show decode kb29 31 = .ok (.getfield 22, 3) from by decide +kernel) gf_22 put_o rfl
theorem m29_34 : M29 34 [l0, .val (.int v), l2] st H Q = M29 35 [l0, .val (.int v), l2] (.int v :: st) H Q := w_x (show decode kb29 34 = .ok (.iload_n 1, 1) from by decide +kernel) rfl
theorem m29_35 : M29 35 ls st H Q = M29 36 ls (.int 4 :: st) H Q := w_con (show decode kb29 35 = .ok (.iconst 4, 1) from by decide +kernel) rfl (by decide)
theorem m29_36 : M29 36 ls (.int y :: .int x :: st) H Q = M29 37 ls (.int (x * y) :: st) H Q := w_x (show decode kb29 36 = .ok (.imul, 1) from by decide +kernel) rfl
theorem m29_37 : M29 37 [l0, l1, .val (.int v)] st H Q = M29 38 [l0, l1, .val (.int v)] (.int v :: st) H Q := w_x (show decode kb29 37 = .ok (.iload_n 2, 1) from by decide +kernel) rfl
theorem m29_38 : M29 38 ls (.int y :: .int x :: st) H Q = M29 39 ls (.int (x + y) :: st) H Q := w_x (show decode kb29 38 = .ok (.iadd, 1) from by decide +kernel) rfl
theorem m29_39  : M29 39 ls (.int j :: .ref (b + 5) :: st) (put b pre s A post) Q = (inB j (A 4) ∧ M29 40 ls (.int (getA (A 4) j) :: st) (put b pre s A post) Q) := w_ild (show decode kb29 39 = .ok (.iaload, 1) from by decide +kernel) rfl put_a4
theorem m29_40 : M29 40 [.val (.ref r), l1, l2] st H Q = M29 41 [.val (.ref r), l1, l2] (.ref r :: st) H Q := w_x (show decode kb29 40 = .ok (.aload_n 0, 1) from by decide +kernel) rfl
theorem m29_41 : M29 41 ls (.ref b :: st) (put b pre s A post) Q = M29 44 ls (.ref (b + 17) :: st) (put b pre s A post) Q := w_get (show decode kb29 41 = .ok (.getfield 59, 3) from by decide +kernel) gf_59 put_o rfl
theorem m29_44 : M29 44 [l0, .val (.int v), l2] st H Q = M29 45 [l0, .val (.int v), l2] (.int v :: st) H Q := w_x (show decode kb29 44 = .ok (.iload_n 1, 1) from by decide +kernel) rfl
theorem m29_45  : M29 45 ls (.int j :: .ref (b + 17) :: st) (put b pre s A post) Q = (inB j (A 16) ∧ M29 46 ls (.int (getA (A 16) j) :: st) (put b pre s A post) Q) := w_ild (show decode kb29 45 = .ok (.iaload, 1) from by decide +kernel) rfl put_a16
theorem m29_46 : M29 46 ls (.int y :: .int x :: st) H Q = if x = y then M29 49 ls st H Q else M29 57 ls st H Q := w_icmpN (show decode kb29 46 = .ok (.if_icmp .ne 11, 3) from by decide +kernel) (i_ne x y) rfl
theorem m29_49 : M29 49 [.val (.ref r), l1, l2] st H Q = M29 50 [.val (.ref r), l1, l2] (.ref r :: st) H Q := w_x (show decode kb29 49 = .ok (.aload_n 0, 1) from by decide +kernel) rfl
theorem m29_50 : M29 50 ls (.ref b :: st) (put b pre s A post) Q = M29 53 ls (.ref (b + 18) :: st) (put b pre s A post) Q := w_get (show decode kb29 50 = .ok (.getfield 62, 3) from by decide +kernel) gf_62 put_o rfl
theorem m29_53 : M29 53 [l0, .val (.int v), l2] st H Q = M29 54 [l0, .val (.int v), l2] (.int v :: st) H Q := w_x (show decode kb29 53 = .ok (.iload_n 1, 1) from by decide +kernel) rfl
theorem m29_54 : M29 54 [l0, l1, .val (.int v)] st H Q = M29 55 [l0, l1, .val (.int v)] (.int v :: st) H Q := w_x (show decode kb29 54 = .ok (.iload_n 2, 1) from by decide +kernel) rfl
theorem m29_55  : M29 55 ls (.int v :: .int j :: .ref (b + 18) :: st) (put b pre s A post) Q = (inB j (A 17) ∧ M29 56 ls st (put b pre s (ou A 17 (setA (A 17) j v)) post) Q) := w_ist (show decode kb29 55 = .ok (.iastore, 1) from by decide +kernel) rfl put_a17 (Nat.zero_le _) rfl put_w17
theorem m29_56 : M29 56 ls [] H Q = Q none H := w_vret (show decode kb29 56 = .ok (.return_, 1) from by decide +kernel) rfl
theorem m29_57 : M29 57 [l0, l1, .val (.int v)] st H Q = M29 60 [l0, l1, .val (.int (v + 1))] st H Q := w_iinc (show decode kb29 57 = .ok (.iinc 2 1, 3) from by decide +kernel) rfl (by decide) rfl
theorem m29_60 : M29 60 ls st H Q = M29 12 ls st H Q := w_x (show decode kb29 60 = .ok (.goto (-48), 3) from by decide +kernel) rfl
theorem m29_63 : M29 63 ls [] H Q = Q none H := w_vret (show decode kb29 63 = .ok (.return_, 1) from by decide +kernel) rfl
theorem m30_0 : M30 0 [.val (.ref r), l1, l2] st H Q = M30 1 [.val (.ref r), l1, l2] (.ref r :: st) H Q := w_x (show decode kb30 0 = .ok (.aload_n 0, 1) from by decide +kernel) rfl
theorem m30_1 : M30 1 ls (.ref b :: st) (put b pre s A post) Q = M30 4 ls (.int (s 9) :: st) (put b pre s A post) Q := w_get (show decode kb30 1 = .ok (.getfield 145, 3) from by decide +kernel) gf_145 put_o rfl
theorem m30_4 : M30 4 ls st H Q = M30 5 ls (.int 1 :: st) H Q := w_con (show decode kb30 4 = .ok (.iconst 1, 1) from by decide +kernel) rfl (by decide)
theorem m30_5 : M30 5 ls (.int y :: .int x :: st) H Q = M30 6 ls (.int (x + y) :: st) H Q := w_x (show decode kb30 5 = .ok (.iadd, 1) from by decide +kernel) rfl
theorem m30_6 : M30 6 [.val (.ref r), l1, l2] st H Q = M30 7 [.val (.ref r), l1, l2] (.ref r :: st) H Q := w_x (show decode kb30 6 = .ok (.aload_n 0, 1) from by decide +kernel) rfl
theorem m30_7 : M30 7 ls (.ref b :: st) (put b pre s A post) Q = M30 10 ls (.ref (b + 16) :: st) (put b pre s A post) Q := w_get (show decode kb30 7 = .ok (.getfield 56, 3) from by decide +kernel) gf_56 put_o rfl
theorem m30_10 : M30 10 [l0, .val (.int v), l2] st H Q = M30 11 [l0, .val (.int v), l2] (.int v :: st) H Q := w_x (show decode kb30 10 = .ok (.iload_n 1, 1) from by decide +kernel) rfl
theorem m30_11  : M30 11 ls (.int j :: .ref (b + 16) :: st) (put b pre s A post) Q = (inB j (A 15) ∧ M30 12 ls (.int (getA (A 15) j) :: st) (put b pre s A post) Q) := w_ild (show decode kb30 11 = .ok (.iaload, 1) from by decide +kernel) rfl put_a15
theorem m30_12 : M30 12 ls (.int y :: .int x :: st) H Q = M30 13 ls (.int (x - y) :: st) H Q := w_x (show decode kb30 12 = .ok (.isub, 1) from by decide +kernel) rfl
theorem m30_13u : M30 13 [l0, l1, .unset] ((.int v) :: st) H Q = M30 14 [l0, l1, .val (.int v)] st H Q := w_st (i := 2) (p := isI) (show decode kb30 13 = .ok (.istore_n 2, 1) from by decide +kernel) rfl rfl rfl rfl rfl rfl
theorem m30_14 : M30 14 [.val (.ref r), l1, l2] st H Q = M30 15 [.val (.ref r), l1, l2] (.ref r :: st) H Q := w_x (show decode kb30 14 = .ok (.aload_n 0, 1) from by decide +kernel) rfl
theorem m30_15 : M30 15 ls (.ref b :: st) (put b pre s A post) Q = M30 18 ls (.ref (b + 19) :: st) (put b pre s A post) Q := w_get (show decode kb30 15 = .ok (.getfield 65, 3) from by decide +kernel) gf_65 put_o rfl
theorem m30_18 : M30 18 [l0, .val (.int v), l2] st H Q = M30 19 [l0, .val (.int v), l2] (.int v :: st) H Q := w_x (show decode kb30 18 = .ok (.iload_n 1, 1) from by decide +kernel) rfl
theorem m30_19 : M30 19 [.val (.ref r), l1, l2] st H Q = M30 20 [.val (.ref r), l1, l2] (.ref r :: st) H Q := w_x (show decode kb30 19 = .ok (.aload_n 0, 1) from by decide +kernel) rfl
theorem m30_20 : M30 20 ls (.ref b :: st) (put b pre s A post) Q = M30 23 ls (.ref (b + 19) :: st) (put b pre s A post) Q := w_get (show decode kb30 20 = .ok (.getfield 65, 3) from by decide +kernel) gf_65 put_o rfl
theorem m30_23 : M30 23 [l0, .val (.int v), l2] st H Q = M30 24 [l0, .val (.int v), l2] (.int v :: st) H Q := w_x (show decode kb30 23 = .ok (.iload_n 1, 1) from by decide +kernel) rfl
theorem m30_24  : M30 24 ls (.int j :: .ref (b + 19) :: st) (put b pre s A post) Q = (inB j (A 18) ∧ M30 25 ls (.int (getA (A 18) j) :: st) (put b pre s A post) Q) := w_ild (show decode kb30 24 = .ok (.iaload, 1) from by decide +kernel) rfl put_a18
theorem m30_25 : M30 25 ls st H Q = M30 26 ls (.int 1 :: st) H Q := w_con (show decode kb30 25 = .ok (.iconst 1, 1) from by decide +kernel) rfl (by decide)
theorem m30_26 : M30 26 ls (.int y :: .int x :: st) H Q = M30 27 ls (.int (x + y) :: st) H Q := w_x (show decode kb30 26 = .ok (.iadd, 1) from by decide +kernel) rfl
theorem m30_27  : M30 27 ls (.int v :: .int j :: .ref (b + 19) :: st) (put b pre s A post) Q = (inB j (A 18) ∧ M30 28 ls st (put b pre s (ou A 18 (setA (A 18) j v)) post) Q) := w_ist (show decode kb30 27 = .ok (.iastore, 1) from by decide +kernel) rfl put_a18 (Nat.zero_le _) rfl put_w18
theorem m30_28 : M30 28 [l0, l1, .val (.int v)] st H Q = M30 29 [l0, l1, .val (.int v)] (.int v :: st) H Q := w_x (show decode kb30 28 = .ok (.iload_n 2, 1) from by decide +kernel) rfl
theorem m30_29 : M30 29 [.val (.ref r), l1, l2] st H Q = M30 30 [.val (.ref r), l1, l2] (.ref r :: st) H Q := w_x (show decode kb30 29 = .ok (.aload_n 0, 1) from by decide +kernel) rfl
theorem m30_30 : M30 30 ls (.ref b :: st) (put b pre s A post) Q = M30 33 ls (.ref (b + 20) :: st) (put b pre s A post) Q := w_get (show decode kb30 30 = .ok (.getfield 68, 3) from by decide +kernel) gf_68 put_o rfl
theorem m30_33 : M30 33 [l0, .val (.int v), l2] st H Q = M30 34 [l0, .val (.int v), l2] (.int v :: st) H Q := w_x (show decode kb30 33 = .ok (.iload_n 1, 1) from by decide +kernel) rfl
theorem m30_34  : M30 34 ls (.int j :: .ref (b + 20) :: st) (put b pre s A post) Q = (inB j (A 19) ∧ M30 35 ls (.int (getA (A 19) j) :: st) (put b pre s A post) Q) := w_ild (show decode kb30 34 = .ok (.iaload, 1) from by decide +kernel) rfl put_a19
theorem m30_35 : M30 35 ls (.int y :: .int x :: st) H Q = if y < x then M30 38 ls st H Q else M30 45 ls st H Q := w_icmpN (show decode kb30 35 = .ok (.if_icmp .le 10, 3) from by decide +kernel) (i_le x y) rfl
theorem m30_38 : M30 38 [.val (.ref r), l1, l2] st H Q = M30 39 [.val (.ref r), l1, l2] (.ref r :: st) H Q := w_x (show decode kb30 38 = .ok (.aload_n 0, 1) from by decide +kernel) rfl
theorem m30_39 : M30 39 ls (.ref b :: st) (put b pre s A post) Q = M30 42 ls (.ref (b + 20) :: st) (put b pre s A post) Q := w_get (show decode kb30 39 = .ok (.getfield 68, 3) from by decide +kernel) gf_68 put_o rfl
theorem m30_42 : M30 42 [l0, .val (.int v), l2] st H Q = M30 43 [l0, .val (.int v), l2] (.int v :: st) H Q := w_x (show decode kb30 42 = .ok (.iload_n 1, 1) from by decide +kernel) rfl
theorem m30_43 : M30 43 [l0, l1, .val (.int v)] st H Q = M30 44 [l0, l1, .val (.int v)] (.int v :: st) H Q := w_x (show decode kb30 43 = .ok (.iload_n 2, 1) from by decide +kernel) rfl
theorem m30_44  : M30 44 ls (.int v :: .int j :: .ref (b + 20) :: st) (put b pre s A post) Q = (inB j (A 19) ∧ M30 45 ls st (put b pre s (ou A 19 (setA (A 19) j v)) post) Q) := w_ist (show decode kb30 44 = .ok (.iastore, 1) from by decide +kernel) rfl put_a19 (Nat.zero_le _) rfl put_w19
theorem m30_45 : M30 45 [.val (.ref r), l1, l2] st H Q = M30 46 [.val (.ref r), l1, l2] (.ref r :: st) H Q := w_x (show decode kb30 45 = .ok (.aload_n 0, 1) from by decide +kernel) rfl
theorem m30_46 : M30 46 ls (.ref b :: st) (put b pre s A post) Q = M30 49 ls (.ref (b + 15) :: st) (put b pre s A post) Q := w_get (show decode kb30 46 = .ok (.getfield 52, 3) from by decide +kernel) gf_52 put_o rfl
theorem m30_49 : M30 49 [l0, .val (.int v), l2] st H Q = M30 50 [l0, .val (.int v), l2] (.int v :: st) H Q := w_x (show decode kb30 49 = .ok (.iload_n 1, 1) from by decide +kernel) rfl
theorem m30_50 : M30 50 ls st H Q = M30 51 ls (.int 0 :: st) H Q := w_con (show decode kb30 50 = .ok (.iconst 0, 1) from by decide +kernel) rfl (by decide)
theorem m30_51  : M30 51 ls (.int v :: .int j :: .ref (b + 15) :: st) (put b pre s A post) Q = (inB j (A 14) ∧ M30 52 ls st (put b pre s (ou A 14 (setA (A 14) j (nar .boolean v))) post) Q) := w_ist (show decode kb30 51 = .ok (.bastore, 1) from by decide +kernel) rfl put_a14 (Nat.zero_le _) rfl put_w14
theorem m30_52 : M30 52 [.val (.ref r), l1, l2] st H Q = M30 53 [.val (.ref r), l1, l2] (.ref r :: st) H Q := w_x (show decode kb30 52 = .ok (.aload_n 0, 1) from by decide +kernel) rfl
theorem m30_53 : M30 53 ls (.ref b :: st) (put b pre s A post) Q = M30 56 ls (.ref (b + 18) :: st) (put b pre s A post) Q := w_get (show decode kb30 53 = .ok (.getfield 62, 3) from by decide +kernel) gf_62 put_o rfl
theorem m30_56 : M30 56 [l0, .val (.int v), l2] st H Q = M30 57 [l0, .val (.int v), l2] (.int v :: st) H Q := w_x (show decode kb30 56 = .ok (.iload_n 1, 1) from by decide +kernel) rfl
theorem m30_57 : M30 57 ls st H Q = M30 58 ls (.int (-1) :: st) H Q := w_con (show decode kb30 57 = .ok (.iconst (-1), 1) from by decide +kernel) rfl (by decide)
theorem m30_58  : M30 58 ls (.int v :: .int j :: .ref (b + 18) :: st) (put b pre s A post) Q = (inB j (A 17) ∧ M30 59 ls st (put b pre s (ou A 17 (setA (A 17) j v)) post) Q) := w_ist (show decode kb30 58 = .ok (.iastore, 1) from by decide +kernel) rfl put_a17 (Nat.zero_le _) rfl put_w17
theorem m30_59 : M30 59 ls [] H Q = Q none H := w_vret (show decode kb30 59 = .ok (.return_, 1) from by decide +kernel) rfl
theorem m31_0 : M31 0 ls st H Q = M31 1 ls (.int 0 :: st) H Q := w_con (show decode kb31 0 = .ok (.iconst 0, 1) from by decide +kernel) rfl (by decide)
theorem m31_1u : M31 1 [l0, .unset] ((.int v) :: st) H Q = M31 2 [l0, .val (.int v)] st H Q := w_st (i := 1) (p := isI) (show decode kb31 1 = .ok (.istore_n 1, 1) from by decide +kernel) rfl rfl rfl rfl rfl rfl
theorem m31_2 : M31 2 [l0, .val (.int v)] st H Q = M31 3 [l0, .val (.int v)] (.int v :: st) H Q := w_x (show decode kb31 2 = .ok (.iload_n 1, 1) from by decide +kernel) rfl
theorem m31_3 : M31 3 [.val (.ref r), l1] st H Q = M31 4 [.val (.ref r), l1] (.ref r :: st) H Q := w_x (show decode kb31 3 = .ok (.aload_n 0, 1) from by decide +kernel) rfl
theorem m31_4 : M31 4 ls (.ref b :: st) (put b pre s A post) Q = M31 7 ls (.int (s 1) :: st) (put b pre s A post) Q := w_get (show decode kb31 4 = .ok (.getfield 75, 3) from by decide +kernel) gf_75 put_o rfl
theorem m31_7 : M31 7 ls (.int y :: .int x :: st) H Q = if x < y then M31 10 ls st H Q else M31 69 ls st H Q := w_icmpN (show decode kb31 7 = .ok (.if_icmp .ge 62, 3) from by decide +kernel) (i_ge x y) rfl
theorem m31_10 : M31 10 [.val (.ref r), l1] st H Q = M31 11 [.val (.ref r), l1] (.ref r :: st) H Q := w_x (show decode kb31 10 = .ok (.aload_n 0, 1) from by decide +kernel) rfl
theorem m31_11 : M31 11 ls (.ref b :: st) (put b pre s A post) Q = M31 14 ls (.ref (b + 15) :: st) (put b pre s A post) Q := w_get (show decode kb31 11 = .ok (.getfield 52, 3) from by decide +kernel) gf_52 put_o rfl
theorem m31_14 : M31 14 [l0, .val (.int v)] st H Q = M31 15 [l0, .val (.int v)] (.int v :: st) H Q := w_x (show decode kb31 14 = .ok (.iload_n 1, 1) from by decide +kernel) rfl
theorem m31_15  : M31 15 ls (.int j :: .ref (b + 15) :: st) (put b pre s A post) Q = (inB j (A 14) ∧ M31 16 ls (.int (getA (A 14) j) :: st) (put b pre s A post) Q) := w_ild (show decode kb31 15 = .ok (.baload, 1) from by decide +kernel) rfl put_a14
theorem m31_16 : M31 16 ls (.int x :: st) H Q = if x = 0 then M31 63 ls st H Q else M31 19 ls st H Q := w_if (show decode kb31 16 = .ok (.ifCond .eq 47, 3) from by decide +kernel) (z_eq x) rfl
theorem m31_19 : M31 19 [.val (.ref r), l1] st H Q = M31 20 [.val (.ref r), l1] (.ref r :: st) H Q := w_x (show decode kb31 19 = .ok (.aload_n 0, 1) from by decide +kernel) rfl
theorem m31_20 : M31 20 ls (.ref b :: st) (put b pre s A post) Q = M31 23 ls (.ref (b + 16) :: st) (put b pre s A post) Q := w_get (show decode kb31 20 = .ok (.getfield 56, 3) from by decide +kernel) gf_56 put_o rfl
theorem m31_23 : M31 23 [l0, .val (.int v)] st H Q = M31 24 [l0, .val (.int v)] (.int v :: st) H Q := w_x (show decode kb31 23 = .ok (.iload_n 1, 1) from by decide +kernel) rfl
theorem m31_24  : M31 24 ls (.int j :: .ref (b + 16) :: st) (put b pre s A post) Q = (inB j (A 15) ∧ M31 25 ls (.int (getA (A 15) j) :: st) (put b pre s A post) Q) := w_ild (show decode kb31 24 = .ok (.iaload, 1) from by decide +kernel) rfl put_a15
theorem m31_25 : M31 25 [.val (.ref r), l1] st H Q = M31 26 [.val (.ref r), l1] (.ref r :: st) H Q := w_x (show decode kb31 25 = .ok (.aload_n 0, 1) from by decide +kernel) rfl
theorem m31_26 : M31 26 ls (.ref b :: st) (put b pre s A post) Q = M31 29 ls (.ref (b + 2) :: st) (put b pre s A post) Q := w_get (show decode kb31 26 = .ok (.getfield 13, 3) from by decide +kernel) gf_13 put_o rfl
theorem m31_29 : M31 29 [l0, .val (.int v)] st H Q = M31 30 [l0, .val (.int v)] (.int v :: st) H Q := w_x (show decode kb31 29 = .ok (.iload_n 1, 1) from by decide +kernel) rfl
theorem m31_30  : M31 30 ls (.int j :: .ref (b + 2) :: st) (put b pre s A post) Q = (inB j (A 1) ∧ M31 31 ls (.int (getA (A 1) j) :: st) (put b pre s A post) Q) := w_ild (show decode kb31 30 = .ok (.iaload, 1) from by decide +kernel) rfl put_a1
theorem m31_31 : M31 31 ls (.int y :: .int x :: st) H Q = M31 32 ls (.int (x + y) :: st) H Q := w_x (show decode kb31 31 = .ok (.iadd, 1) from by decide +kernel) rfl
theorem m31_32 : M31 32 [.val (.ref r), l1] st H Q = M31 33 [.val (.ref r), l1] (.ref r :: st) H Q := w_x (show decode kb31 32 = .ok (.aload_n 0, 1) from by decide +kernel) rfl
theorem m31_33 : M31 33 ls (.ref b :: st) (put b pre s A post) Q = M31 36 ls (.int (s 9) :: st) (put b pre s A post) Q := w_get (show decode kb31 33 = .ok (.getfield 145, 3) from by decide +kernel) gf_145 put_o rfl
theorem m31_36 : M31 36 ls (.int y :: .int x :: st) H Q = if x = y then M31 39 ls st H Q else M31 63 ls st H Q := w_icmpN (show decode kb31 36 = .ok (.if_icmp .ne 27, 3) from by decide +kernel) (i_ne x y) rfl
theorem m31_39 : M31 39 [.val (.ref r), l1] st H Q = M31 40 [.val (.ref r), l1] (.ref r :: st) H Q := w_x (show decode kb31 39 = .ok (.aload_n 0, 1) from by decide +kernel) rfl
theorem m31_40 : M31 40 ls ((.ref r) :: st) H Q = M31 41 ls ((.ref r) :: (.ref r) :: st) H Q := w_x (show decode kb31 40 = .ok (.dup, 1) from by decide +kernel) rfl
theorem m31_41 : M31 41 ls (.ref b :: st) (put b pre s A post) Q = M31 44 ls (.int (s 10) :: st) (put b pre s A post) Q := w_get (show decode kb31 41 = .ok (.getfield 148, 3) from by decide +kernel) gf_148 put_o rfl
theorem m31_44 : M31 44 ls st H Q = M31 45 ls (.int 1 :: st) H Q := w_con (show decode kb31 44 = .ok (.iconst 1, 1) from by decide +kernel) rfl (by decide)
theorem m31_45 : M31 45 ls (.int y :: .int x :: st) H Q = M31 46 ls (.int (x + y) :: st) H Q := w_x (show decode kb31 45 = .ok (.iadd, 1) from by decide +kernel) rfl
theorem pf31_148 : pfR tables_1 y31.cls y31.name 148 = some ("ResponseTimeGate", 26, .int) := by decide +kernel
theorem m31_46 : M31 46 ls (.int v :: .ref b :: st) (put b pre s A post) Q = M31 49 ls st (put b pre (ou s 10 v) A post) Q := w_put (show decode kb31 46 = .ok (.putfield 148, 3) from by decide +kernel) pf31_148 put_o (Nat.zero_le _) (by show 26 < 31; omega) rfl put_s10
theorem m31_49 : M31 49 [.val (.ref r), l1] st H Q = M31 50 [.val (.ref r), l1] (.ref r :: st) H Q := w_x (show decode kb31 49 = .ok (.aload_n 0, 1) from by decide +kernel) rfl
theorem m31_50 : M31 50 ls (.ref b :: st) (put b pre s A post) Q = M31 53 ls (.ref (b + 18) :: st) (put b pre s A post) Q := w_get (show decode kb31 50 = .ok (.getfield 62, 3) from by decide +kernel) gf_62 put_o rfl
theorem m31_53 : M31 53 [l0, .val (.int v)] st H Q = M31 54 [l0, .val (.int v)] (.int v :: st) H Q := w_x (show decode kb31 53 = .ok (.iload_n 1, 1) from by decide +kernel) rfl
theorem m31_54 : M31 54 ls st H Q = M31 55 ls (.int (-1) :: st) H Q := w_con (show decode kb31 54 = .ok (.iconst (-1), 1) from by decide +kernel) rfl (by decide)
theorem m31_55  : M31 55 ls (.int v :: .int j :: .ref (b + 18) :: st) (put b pre s A post) Q = (inB j (A 17) ∧ M31 56 ls st (put b pre s (ou A 17 (setA (A 17) j v)) post) Q) := w_ist (show decode kb31 55 = .ok (.iastore, 1) from by decide +kernel) rfl put_a17 (Nat.zero_le _) rfl put_w17
theorem m31_56 : M31 56 [.val (.ref r), l1] st H Q = M31 57 [.val (.ref r), l1] (.ref r :: st) H Q := w_x (show decode kb31 56 = .ok (.aload_n 0, 1) from by decide +kernel) rfl
theorem m31_57 : M31 57 ls (.ref b :: st) (put b pre s A post) Q = M31 60 ls (.ref (b + 15) :: st) (put b pre s A post) Q := w_get (show decode kb31 57 = .ok (.getfield 52, 3) from by decide +kernel) gf_52 put_o rfl
theorem m31_60 : M31 60 [l0, .val (.int v)] st H Q = M31 61 [l0, .val (.int v)] (.int v :: st) H Q := w_x (show decode kb31 60 = .ok (.iload_n 1, 1) from by decide +kernel) rfl
theorem m31_61 : M31 61 ls st H Q = M31 62 ls (.int 0 :: st) H Q := w_con (show decode kb31 61 = .ok (.iconst 0, 1) from by decide +kernel) rfl (by decide)
theorem m31_62  : M31 62 ls (.int v :: .int j :: .ref (b + 15) :: st) (put b pre s A post) Q = (inB j (A 14) ∧ M31 63 ls st (put b pre s (ou A 14 (setA (A 14) j (nar .boolean v))) post) Q) := w_ist (show decode kb31 62 = .ok (.bastore, 1) from by decide +kernel) rfl put_a14 (Nat.zero_le _) rfl put_w14
theorem m31_63 : M31 63 [l0, .val (.int v)] st H Q = M31 66 [l0, .val (.int (v + 1))] st H Q := w_iinc (show decode kb31 63 = .ok (.iinc 1 1, 3) from by decide +kernel) rfl (by decide) rfl
theorem m31_66 : M31 66 ls st H Q = M31 2 ls st H Q := w_x (show decode kb31 66 = .ok (.goto (-64), 3) from by decide +kernel) rfl
theorem m31_69 : M31 69 ls [] H Q = Q none H := w_vret (show decode kb31 69 = .ok (.return_, 1) from by decide +kernel) rfl
theorem m32_0 : M32 0 [.val (.ref r)] st H Q = M32 1 [.val (.ref r)] (.ref r :: st) H Q := w_x (show decode kb32 0 = .ok (.aload_n 0, 1) from by decide +kernel) rfl
theorem m32_1 : M32 1 ls (.ref b :: st) (put b pre s A post) Q = M32 4 ls (.int (s 9) :: st) (put b pre s A post) Q := w_get (show decode kb32 1 = .ok (.getfield 145, 3) from by decide +kernel) gf_145 put_o rfl
theorem m32_4 : M32 4 ls (.int z :: st) H Q = Q (some (.int z)) H := w_iret (show decode kb32 4 = .ok (.ireturn, 1) from by decide +kernel) rfl
theorem m33_0 : M33 0 [.val (.ref r)] st H Q = M33 1 [.val (.ref r)] (.ref r :: st) H Q := w_x (show decode kb33 0 = .ok (.aload_n 0, 1) from by decide +kernel) rfl
theorem m33_1 : M33 1 ls (.ref b :: st) (put b pre s A post) Q = M33 4 ls (.int (s 10) :: st) (put b pre s A post) Q := w_get (show decode kb33 1 = .ok (.getfield 148, 3) from by decide +kernel) gf_148 put_o rfl
theorem m33_4 : M33 4 ls (.int z :: st) H Q = Q (some (.int z)) H := w_iret (show decode kb33 4 = .ok (.ireturn, 1) from by decide +kernel) rfl
theorem m34_0 : M34 0 [l0, .val (.int v), l2] st H Q = M34 1 [l0, .val (.int v), l2] (.int v :: st) H Q := w_x (show decode kb34 0 = .ok (.iload_n 1, 1) from by decide +kernel) rfl
theorem m34_1 : M34 1 ls (.int x :: st) H Q = if x < 0 then M34 9 ls st H Q else M34 4 ls st H Q := w_if (show decode kb34 1 = .ok (.ifCond .lt 8, 3) from by decide +kernel) (z_lt x) rfl
theorem m34_4 : M34 4 [l0, .val (.int v), l2] st H Q = M34 5 [l0, .val (.int v), l2] (.int v :: st) H Q := w_x (show decode kb34 4 = .ok (.iload_n 1, 1) from by decide +kernel) rfl
theorem m34_5 : M34 5 ls st H Q = M34 6 ls (.int 4 :: st) H Q := w_con (show decode kb34 5 = .ok (.iconst 4, 1) from by decide +kernel) rfl (by decide)
theorem m34_6 : M34 6 ls (.int y :: .int x :: st) H Q = if x < y then M34 11 ls st H Q else M34 9 ls st H Q := w_icmp (show decode kb34 6 = .ok (.if_icmp .lt 5, 3) from by decide +kernel) (i_lt x y) rfl
theorem m34_9 : M34 9 ls st H Q = M34 10 ls (.int (-1) :: st) H Q := w_con (show decode kb34 9 = .ok (.iconst (-1), 1) from by decide +kernel) rfl (by decide)
theorem m34_10 : M34 10 ls (.int z :: st) H Q = Q (some (.int z)) H := w_iret (show decode kb34 10 = .ok (.ireturn, 1) from by decide +kernel) rfl
theorem m34_11 : M34 11 ls st H Q = M34 12 ls (.int 0 :: st) H Q := w_con (show decode kb34 11 = .ok (.iconst 0, 1) from by decide +kernel) rfl (by decide)
theorem m34_12u : M34 12 [l0, l1, .unset] ((.int v) :: st) H Q = M34 13 [l0, l1, .val (.int v)] st H Q := w_st (i := 2) (p := isI) (show decode kb34 12 = .ok (.istore_n 2, 1) from by decide +kernel) rfl rfl rfl rfl rfl rfl
theorem m34_13 : M34 13 [l0, l1, .val (.int v)] st H Q = M34 14 [l0, l1, .val (.int v)] (.int v :: st) H Q := w_x (show decode kb34 13 = .ok (.iload_n 2, 1) from by decide +kernel) rfl
theorem m34_14 : M34 14 [.val (.ref r), l1, l2] st H Q = M34 15 [.val (.ref r), l1, l2] (.ref r :: st) H Q := w_x (show decode kb34 14 = .ok (.aload_n 0, 1) from by decide +kernel) rfl
theorem m34_15 : M34 15 ls (.ref b :: st) (put b pre s A post) Q = M34 18 ls (.int (s 1) :: st) (put b pre s A post) Q := w_get (show decode kb34 15 = .ok (.getfield 75, 3) from by decide +kernel) gf_75 put_o rfl
theorem m34_18 : M34 18 ls (.int y :: .int x :: st) H Q = if x < y then M34 21 ls st H Q else M34 48 ls st H Q := w_icmpN (show decode kb34 18 = .ok (.if_icmp .ge 30, 3) from by decide +kernel) (i_ge x y) rfl
theorem m34_21 : M34 21 [.val (.ref r), l1, l2] st H Q = M34 22 [.val (.ref r), l1, l2] (.ref r :: st) H Q := w_x (show decode kb34 21 = .ok (.aload_n 0, 1) from by decide +kernel) rfl
theorem m34_22 : M34 22 ls (.ref b :: st) (put b pre s A post) Q = M34 25 ls (.ref (b + 15) :: st) (put b pre s A post) Q := w_get (show decode kb34 22 = .ok (.getfield 52, 3) from by decide +kernel) gf_52 put_o rfl
theorem m34_25 : M34 25 [l0, l1, .val (.int v)] st H Q = M34 26 [l0, l1, .val (.int v)] (.int v :: st) H Q := w_x (show decode kb34 25 = .ok (.iload_n 2, 1) from by decide +kernel) rfl
theorem m34_26  : M34 26 ls (.int j :: .ref (b + 15) :: st) (put b pre s A post) Q = (inB j (A 14) ∧ M34 27 ls (.int (getA (A 14) j) :: st) (put b pre s A post) Q) := w_ild (show decode kb34 26 = .ok (.baload, 1) from by decide +kernel) rfl put_a14
theorem m34_27 : M34 27 ls (.int x :: st) H Q = if x = 0 then M34 42 ls st H Q else M34 30 ls st H Q := w_if (show decode kb34 27 = .ok (.ifCond .eq 15, 3) from by decide +kernel) (z_eq x) rfl
theorem m34_30 : M34 30 [.val (.ref r), l1, l2] st H Q = M34 31 [.val (.ref r), l1, l2] (.ref r :: st) H Q := w_x (show decode kb34 30 = .ok (.aload_n 0, 1) from by decide +kernel) rfl
theorem m34_31 : M34 31 ls (.ref b :: st) (put b pre s A post) Q = M34 34 ls (.ref (b + 18) :: st) (put b pre s A post) Q := w_get (show decode kb34 31 = .ok (.getfield 62, 3) from by decide +kernel) gf_62 put_o rfl
theorem m34_34 : M34 34 [l0, l1, .val (.int v)] st H Q = M34 35 [l0, l1, .val (.int v)] (.int v :: st) H Q := w_x (show decode kb34 34 = .ok (.iload_n 2, 1) from by decide +kernel) rfl
theorem m34_35  : M34 35 ls (.int j :: .ref (b + 18) :: st) (put b pre s A post) Q = (inB j (A 17) ∧ M34 36 ls (.int (getA (A 17) j) :: st) (put b pre s A post) Q) := w_ild (show decode kb34 35 = .ok (.iaload, 1) from by decide +kernel) rfl put_a17
theorem m34_36 : M34 36 [l0, .val (.int v), l2] st H Q = M34 37 [l0, .val (.int v), l2] (.int v :: st) H Q := w_x (show decode kb34 36 = .ok (.iload_n 1, 1) from by decide +kernel) rfl
theorem m34_37 : M34 37 ls (.int y :: .int x :: st) H Q = if x = y then M34 40 ls st H Q else M34 42 ls st H Q := w_icmpN (show decode kb34 37 = .ok (.if_icmp .ne 5, 3) from by decide +kernel) (i_ne x y) rfl
theorem m34_40 : M34 40 [l0, l1, .val (.int v)] st H Q = M34 41 [l0, l1, .val (.int v)] (.int v :: st) H Q := w_x (show decode kb34 40 = .ok (.iload_n 2, 1) from by decide +kernel) rfl
theorem m34_41 : M34 41 ls (.int z :: st) H Q = Q (some (.int z)) H := w_iret (show decode kb34 41 = .ok (.ireturn, 1) from by decide +kernel) rfl
theorem m34_42 : M34 42 [l0, l1, .val (.int v)] st H Q = M34 45 [l0, l1, .val (.int (v + 1))] st H Q := w_iinc (show decode kb34 42 = .ok (.iinc 2 1, 3) from by decide +kernel) rfl (by decide) rfl
theorem m34_45 : M34 45 ls st H Q = M34 13 ls st H Q := w_x (show decode kb34 45 = .ok (.goto (-32), 3) from by decide +kernel) rfl
theorem m34_48 : M34 48 ls st H Q = M34 49 ls (.int (-1) :: st) H Q := w_con (show decode kb34 48 = .ok (.iconst (-1), 1) from by decide +kernel) rfl (by decide)
theorem m34_49 : M34 49 ls (.int z :: st) H Q = Q (some (.int z)) H := w_iret (show decode kb34 49 = .ok (.ireturn, 1) from by decide +kernel) rfl
theorem m35_0 : M35 0 [.val (.ref r), l1] st H Q = M35 1 [.val (.ref r), l1] (.ref r :: st) H Q := w_x (show decode kb35 0 = .ok (.aload_n 0, 1) from by decide +kernel) rfl
theorem m35_1 : M35 1 [l0, .val (.int v)] st H Q = M35 2 [l0, .val (.int v)] (.int v :: st) H Q := w_x (show decode kb35 1 = .ok (.iload_n 1, 1) from by decide +kernel) rfl
theorem cr35_142 : vR tables_1 dn y35 142 = some (true, y19, prog_1_method_16_code, 2, (some .boolean), 1, 0) := pR_of (cR_of (by decide +kernel) rc_19 dn_19 dn_35 (sig := ⟨[.int], some .boolean⟩) (by decide +kernel) (by decide +kernel) rfl rfl) (by decide +kernel) (by decide +kernel)
theorem m35_2 (a0 : Int32) : M35 2 ls [.int a0, .ref b] (put b pre s A post) Q = M19 0 [.val (.ref b), .val (.int a0)] [] (put b pre s A post) (fun v H1 => M35 5 ls (v.toList ++ []) H1 Q) := w_virt (as := [.int a0]) (rest := []) (a := b) (show decode kb35 2 = .ok (.invokevirtual 142, 3) from by decide +kernel) cr35_142 put_o rfl rfl (Nat.le_of_ble_eq_true rfl) (by show 2 ≤ 2; omega) rfl
theorem m35_5 : M35 5 ls (.int x :: st) H Q = if x = 0 then M35 8 ls st H Q else M35 10 ls st H Q := w_ifN (show decode kb35 5 = .ok (.ifCond .ne 5, 3) from by decide +kernel) (z_ne x) rfl
theorem m35_8 : M35 8 ls st H Q = M35 9 ls (.int (-1) :: st) H Q := w_con (show decode kb35 8 = .ok (.iconst (-1), 1) from by decide +kernel) rfl (by decide)
theorem m35_9 : M35 9 ls (.int z :: st) H Q = Q (some (.int z)) H := w_iret (show decode kb35 9 = .ok (.ireturn, 1) from by decide +kernel) rfl
theorem m35_10 : M35 10 [.val (.ref r), l1] st H Q = M35 11 [.val (.ref r), l1] (.ref r :: st) H Q := w_x (show decode kb35 10 = .ok (.aload_n 0, 1) from by decide +kernel) rfl
theorem m35_11 : M35 11 ls (.ref b :: st) (put b pre s A post) Q = M35 14 ls (.ref (b + 19) :: st) (put b pre s A post) Q := w_get (show decode kb35 11 = .ok (.getfield 65, 3) from by decide +kernel) gf_65 put_o rfl
theorem m35_14 : M35 14 [l0, .val (.int v)] st H Q = M35 15 [l0, .val (.int v)] (.int v :: st) H Q := w_x (show decode kb35 14 = .ok (.iload_n 1, 1) from by decide +kernel) rfl
theorem m35_15  : M35 15 ls (.int j :: .ref (b + 19) :: st) (put b pre s A post) Q = (inB j (A 18) ∧ M35 16 ls (.int (getA (A 18) j) :: st) (put b pre s A post) Q) := w_ild (show decode kb35 15 = .ok (.iaload, 1) from by decide +kernel) rfl put_a18
theorem m35_16 : M35 16 ls (.int z :: st) H Q = Q (some (.int z)) H := w_iret (show decode kb35 16 = .ok (.ireturn, 1) from by decide +kernel) rfl
theorem m36_0 : M36 0 [.val (.ref r), l1] st H Q = M36 1 [.val (.ref r), l1] (.ref r :: st) H Q := w_x (show decode kb36 0 = .ok (.aload_n 0, 1) from by decide +kernel) rfl
theorem m36_1 : M36 1 [l0, .val (.int v)] st H Q = M36 2 [l0, .val (.int v)] (.int v :: st) H Q := w_x (show decode kb36 1 = .ok (.iload_n 1, 1) from by decide +kernel) rfl
theorem cr36_142 : vR tables_1 dn y36 142 = some (true, y19, prog_1_method_16_code, 2, (some .boolean), 1, 0) := pR_of (cR_of (by decide +kernel) rc_19 dn_19 dn_36 (sig := ⟨[.int], some .boolean⟩) (by decide +kernel) (by decide +kernel) rfl rfl) (by decide +kernel) (by decide +kernel)
theorem m36_2 (a0 : Int32) : M36 2 ls [.int a0, .ref b] (put b pre s A post) Q = M19 0 [.val (.ref b), .val (.int a0)] [] (put b pre s A post) (fun v H1 => M36 5 ls (v.toList ++ []) H1 Q) := w_virt (as := [.int a0]) (rest := []) (a := b) (show decode kb36 2 = .ok (.invokevirtual 142, 3) from by decide +kernel) cr36_142 put_o rfl rfl (Nat.le_of_ble_eq_true rfl) (by show 2 ≤ 2; omega) rfl
theorem m36_5 : M36 5 ls (.int x :: st) H Q = if x = 0 then M36 8 ls st H Q else M36 10 ls st H Q := w_ifN (show decode kb36 5 = .ok (.ifCond .ne 5, 3) from by decide +kernel) (z_ne x) rfl
theorem m36_8 : M36 8 ls st H Q = M36 9 ls (.int (-1) :: st) H Q := w_con (show decode kb36 8 = .ok (.iconst (-1), 1) from by decide +kernel) rfl (by decide)
theorem m36_9 : M36 9 ls (.int z :: st) H Q = Q (some (.int z)) H := w_iret (show decode kb36 9 = .ok (.ireturn, 1) from by decide +kernel) rfl
theorem m36_10 : M36 10 [.val (.ref r), l1] st H Q = M36 11 [.val (.ref r), l1] (.ref r :: st) H Q := w_x (show decode kb36 10 = .ok (.aload_n 0, 1) from by decide +kernel) rfl
theorem m36_11 : M36 11 ls (.ref b :: st) (put b pre s A post) Q = M36 14 ls (.ref (b + 20) :: st) (put b pre s A post) Q := w_get (show decode kb36 11 = .ok (.getfield 68, 3) from by decide +kernel) gf_68 put_o rfl
theorem m36_14 : M36 14 [l0, .val (.int v)] st H Q = M36 15 [l0, .val (.int v)] (.int v :: st) H Q := w_x (show decode kb36 14 = .ok (.iload_n 1, 1) from by decide +kernel) rfl
theorem m36_15  : M36 15 ls (.int j :: .ref (b + 20) :: st) (put b pre s A post) Q = (inB j (A 19) ∧ M36 16 ls (.int (getA (A 19) j) :: st) (put b pre s A post) Q) := w_ild (show decode kb36 15 = .ok (.iaload, 1) from by decide +kernel) rfl put_a19
theorem m36_16 : M36 16 ls (.int z :: st) H Q = Q (some (.int z)) H := w_iret (show decode kb36 16 = .ok (.ireturn, 1) from by decide +kernel) rfl
theorem m37_0 : M37 0 [.val (.int v), l1, l2] st H Q = M37 1 [.val (.int v), l1, l2] (.int v :: st) H Q := w_x (show decode kb37 0 = .ok (.iload_n 0, 1) from by decide +kernel) rfl
theorem m37_1 : M37 1 [l0, .val (.int v), l2] st H Q = M37 2 [l0, .val (.int v), l2] (.int v :: st) H Q := w_x (show decode kb37 1 = .ok (.iload_n 1, 1) from by decide +kernel) rfl
theorem m37_2 : M37 2 ls (.int y :: .int x :: st) H Q = (y ≠ 0 ∧ M37 3 ls (.int (x % y) :: st) H Q) := w_div (f := fun x y => x % y) (show decode kb37 2 = .ok (.irem, 1) from by decide +kernel) (fun _ => rfl) rfl rfl
theorem m37_3u : M37 3 [l0, l1, .unset] ((.int v) :: st) H Q = M37 4 [l0, l1, .val (.int v)] st H Q := w_st (i := 2) (p := isI) (show decode kb37 3 = .ok (.istore_n 2, 1) from by decide +kernel) rfl rfl rfl rfl rfl rfl
theorem m37_4 : M37 4 [l0, l1, .val (.int v)] st H Q = M37 5 [l0, l1, .val (.int v)] (.int v :: st) H Q := w_x (show decode kb37 4 = .ok (.iload_n 2, 1) from by decide +kernel) rfl
theorem m37_5 : M37 5 ls (.int x :: st) H Q = if x < 0 then M37 8 ls st H Q else M37 14 ls st H Q := w_ifN (show decode kb37 5 = .ok (.ifCond .ge 9, 3) from by decide +kernel) (z_ge x) rfl
theorem m37_8 : M37 8 [l0, l1, .val (.int v)] st H Q = M37 9 [l0, l1, .val (.int v)] (.int v :: st) H Q := w_x (show decode kb37 8 = .ok (.iload_n 2, 1) from by decide +kernel) rfl
theorem m37_9 : M37 9 [l0, .val (.int v), l2] st H Q = M37 10 [l0, .val (.int v), l2] (.int v :: st) H Q := w_x (show decode kb37 9 = .ok (.iload_n 1, 1) from by decide +kernel) rfl
theorem m37_10 : M37 10 ls (.int y :: .int x :: st) H Q = M37 11 ls (.int (x + y) :: st) H Q := w_x (show decode kb37 10 = .ok (.iadd, 1) from by decide +kernel) rfl
theorem m37_11 : M37 11 ls st H Q = M37 15 ls st H Q := w_x (show decode kb37 11 = .ok (.goto 4, 3) from by decide +kernel) rfl
theorem m37_14 : M37 14 [l0, l1, .val (.int v)] st H Q = M37 15 [l0, l1, .val (.int v)] (.int v :: st) H Q := w_x (show decode kb37 14 = .ok (.iload_n 2, 1) from by decide +kernel) rfl
theorem m37_15 : M37 15 ls (.int z :: st) H Q = Q (some (.int z)) H := w_iret (show decode kb37 15 = .ok (.ireturn, 1) from by decide +kernel) rfl
theorem m38_0 : M38 0 ls st H Q = M38 1 ls (.int 1 :: st) H Q := w_con at_0 rfl (by decide)
theorem m38_1 : M38 1 [.val (.int v), l1, l2, l3, l4, l5, l6, l7, l8, l9, l10, l11, l12, l13, l14, l15] st H Q = M38 2 [.val (.int v), l1, l2, l3, l4, l5, l6, l7, l8, l9, l10, l11, l12, l13, l14, l15] (.int v :: st) H Q := w_x at_1 rfl
theorem m38_2 : M38 2 ls st H Q = M38 4 ls (.int 8 :: st) H Q := w_con at_2 rfl (by decide)
theorem cr38_7 : sR tables_1 dn y38 7 = some (y37, method_2_code, 3, (some .int), 2, 56) := sR_of (cR_of (by decide +kernel) rc_37 dn_37 dn_38 (sig := ⟨[.int, .int], some .int⟩) (by decide +kernel) (by decide +kernel) rfl rfl) (by decide +kernel)
theorem m38_4 (a0 : Int32) (a1 : Int32) (u0 : Int32) : M38 4 ls [.int a1, .int a0, .int u0] H Q = M37 0 [.val (.int a0), .val (.int a1), .unset] [] H (fun v H1 => M38 7 ls (v.toList ++ [.int u0]) H1 Q) := w_stat (as := [.int a1, .int a0]) (rest := [.int u0]) at_4 cr38_7 rfl (Nat.le_of_ble_eq_true rfl) (by show 2 ≤ 3; omega) rfl
theorem m38_7 : M38 7 ls (.int y :: .int x :: st) H Q = M38 8 ls (.int (x + y) :: st) H Q := w_x at_7 rfl
theorem m38_8u : M38 8 [l0, l1, l2, l3, l4, l5, .unset, l7, l8, l9, l10, l11, l12, l13, l14, l15] ((.int v) :: st) H Q = M38 10 [l0, l1, l2, l3, l4, l5, .val (.int v), l7, l8, l9, l10, l11, l12, l13, l14, l15] st H Q := w_st (i := 6) (p := isI) at_8 rfl rfl rfl rfl rfl rfl
theorem m38_10 : M38 10 ls st H Q = M38 11 ls (.int 1 :: st) H Q := w_con at_10 rfl (by decide)
theorem m38_11 : M38 11 [l0, .val (.int v), l2, l3, l4, l5, l6, l7, l8, l9, l10, l11, l12, l13, l14, l15] st H Q = M38 12 [l0, .val (.int v), l2, l3, l4, l5, l6, l7, l8, l9, l10, l11, l12, l13, l14, l15] (.int v :: st) H Q := w_x at_11 rfl
theorem m38_12 : M38 12 [l0, l1, l2, l3, l4, l5, .val (.int v), l7, l8, l9, l10, l11, l12, l13, l14, l15] st H Q = M38 14 [l0, l1, l2, l3, l4, l5, .val (.int v), l7, l8, l9, l10, l11, l12, l13, l14, l15] (.int v :: st) H Q := w_x at_12 rfl
theorem m38_14 (a0 : Int32) (a1 : Int32) (u0 : Int32) : M38 14 ls [.int a1, .int a0, .int u0] H Q = M37 0 [.val (.int a0), .val (.int a1), .unset] [] H (fun v H1 => M38 17 ls (v.toList ++ [.int u0]) H1 Q) := w_stat (as := [.int a1, .int a0]) (rest := [.int u0]) at_14 cr38_7 rfl (Nat.le_of_ble_eq_true rfl) (by show 2 ≤ 3; omega) rfl
theorem m38_17 : M38 17 ls (.int y :: .int x :: st) H Q = M38 18 ls (.int (x + y) :: st) H Q := w_x at_17 rfl
theorem m38_18u : M38 18 [l0, l1, l2, l3, l4, l5, l6, .unset, l8, l9, l10, l11, l12, l13, l14, l15] ((.int v) :: st) H Q = M38 20 [l0, l1, l2, l3, l4, l5, l6, .val (.int v), l8, l9, l10, l11, l12, l13, l14, l15] st H Q := w_st (i := 7) (p := isI) at_18 rfl rfl rfl rfl rfl rfl
theorem m38_20 : M38 20 ls st H Q = M38 21 ls (.int 1 :: st) H Q := w_con at_20 rfl (by decide)
theorem m38_21 : M38 21 [l0, l1, .val (.int v), l3, l4, l5, l6, l7, l8, l9, l10, l11, l12, l13, l14, l15] st H Q = M38 22 [l0, l1, .val (.int v), l3, l4, l5, l6, l7, l8, l9, l10, l11, l12, l13, l14, l15] (.int v :: st) H Q := w_x at_21 rfl
theorem m38_22 : M38 22 ls st H Q = M38 23 ls (.int 4 :: st) H Q := w_con at_22 rfl (by decide)
theorem m38_23 (a0 : Int32) (a1 : Int32) (u0 : Int32) : M38 23 ls [.int a1, .int a0, .int u0] H Q = M37 0 [.val (.int a0), .val (.int a1), .unset] [] H (fun v H1 => M38 26 ls (v.toList ++ [.int u0]) H1 Q) := w_stat (as := [.int a1, .int a0]) (rest := [.int u0]) at_23 cr38_7 rfl (Nat.le_of_ble_eq_true rfl) (by show 2 ≤ 3; omega) rfl
theorem m38_26 : M38 26 ls (.int y :: .int x :: st) H Q = M38 27 ls (.int (x + y) :: st) H Q := w_x at_26 rfl
theorem m38_27u : M38 27 [l0, l1, l2, l3, l4, l5, l6, l7, .unset, l9, l10, l11, l12, l13, l14, l15] ((.int v) :: st) H Q = M38 29 [l0, l1, l2, l3, l4, l5, l6, l7, .val (.int v), l9, l10, l11, l12, l13, l14, l15] st H Q := w_st (i := 8) (p := isI) at_27 rfl rfl rfl rfl rfl rfl
theorem m38_29 : M38 29 [l0, l1, l2, l3, l4, l5, .val (.int v), l7, l8, l9, l10, l11, l12, l13, l14, l15] st H Q = M38 31 [l0, l1, l2, l3, l4, l5, .val (.int v), l7, l8, l9, l10, l11, l12, l13, l14, l15] (.int v :: st) H Q := w_x at_29 rfl
theorem m38_31 : M38 31 [l0, l1, l2, .val (.int v), l4, l5, l6, l7, l8, l9, l10, l11, l12, l13, l14, l15] st H Q = M38 32 [l0, l1, l2, .val (.int v), l4, l5, l6, l7, l8, l9, l10, l11, l12, l13, l14, l15] (.int v :: st) H Q := w_x at_31 rfl
theorem m38_32 : M38 32 ls st H Q = M38 34 ls (.int 8 :: st) H Q := w_con at_32 rfl (by decide)
theorem m38_34 (a0 : Int32) (a1 : Int32) (u0 : Int32) : M38 34 ls [.int a1, .int a0, .int u0] H Q = M37 0 [.val (.int a0), .val (.int a1), .unset] [] H (fun v H1 => M38 37 ls (v.toList ++ [.int u0]) H1 Q) := w_stat (as := [.int a1, .int a0]) (rest := [.int u0]) at_34 cr38_7 rfl (Nat.le_of_ble_eq_true rfl) (by show 2 ≤ 3; omega) rfl
theorem m38_37 : M38 37 ls (.int y :: .int x :: st) H Q = M38 38 ls (.int (x + y) :: st) H Q := w_x at_37 rfl
theorem m38_38u : M38 38 [l0, l1, l2, l3, l4, l5, l6, l7, l8, .unset, l10, l11, l12, l13, l14, l15] ((.int v) :: st) H Q = M38 40 [l0, l1, l2, l3, l4, l5, l6, l7, l8, .val (.int v), l10, l11, l12, l13, l14, l15] st H Q := w_st (i := 9) (p := isI) at_38 rfl rfl rfl rfl rfl rfl
theorem m38_40 : M38 40 [l0, l1, l2, l3, l4, l5, l6, l7, .val (.int v), l9, l10, l11, l12, l13, l14, l15] st H Q = M38 42 [l0, l1, l2, l3, l4, l5, l6, l7, .val (.int v), l9, l10, l11, l12, l13, l14, l15] (.int v :: st) H Q := w_x at_40 rfl
theorem m38_42 : M38 42 [l0, l1, l2, l3, .val (.int v), l5, l6, l7, l8, l9, l10, l11, l12, l13, l14, l15] st H Q = M38 44 [l0, l1, l2, l3, .val (.int v), l5, l6, l7, l8, l9, l10, l11, l12, l13, l14, l15] (.int v :: st) H Q := w_x at_42 rfl
theorem m38_44 : M38 44 ls st H Q = M38 46 ls (.int 8 :: st) H Q := w_con at_44 rfl (by decide)
theorem m38_46 (a0 : Int32) (a1 : Int32) (u0 : Int32) : M38 46 ls [.int a1, .int a0, .int u0] H Q = M37 0 [.val (.int a0), .val (.int a1), .unset] [] H (fun v H1 => M38 49 ls (v.toList ++ [.int u0]) H1 Q) := w_stat (as := [.int a1, .int a0]) (rest := [.int u0]) at_46 cr38_7 rfl (Nat.le_of_ble_eq_true rfl) (by show 2 ≤ 3; omega) rfl
theorem m38_49 : M38 49 ls (.int y :: .int x :: st) H Q = M38 50 ls (.int (x + y) :: st) H Q := w_x at_49 rfl
theorem m38_50u : M38 50 [l0, l1, l2, l3, l4, l5, l6, l7, l8, l9, .unset, l11, l12, l13, l14, l15] ((.int v) :: st) H Q = M38 52 [l0, l1, l2, l3, l4, l5, l6, l7, l8, l9, .val (.int v), l11, l12, l13, l14, l15] st H Q := w_st (i := 10) (p := isI) at_50 rfl rfl rfl rfl rfl rfl
theorem m38_52 : M38 52 [l0, l1, l2, l3, l4, .val (.int v), l6, l7, l8, l9, l10, l11, l12, l13, l14, l15] st H Q = M38 54 [l0, l1, l2, l3, l4, .val (.int v), l6, l7, l8, l9, l10, l11, l12, l13, l14, l15] (.int v :: st) H Q := w_x at_52 rfl
theorem m38_54 : M38 54 ls st H Q = M38 55 ls (.int 4 :: st) H Q := w_con at_54 rfl (by decide)
theorem m38_55 (a0 : Int32) (a1 : Int32) : M38 55 ls [.int a1, .int a0] H Q = M37 0 [.val (.int a0), .val (.int a1), .unset] [] H (fun v H1 => M38 58 ls (v.toList ++ []) H1 Q) := w_stat (as := [.int a1, .int a0]) (rest := []) at_55 cr38_7 rfl (Nat.le_of_ble_eq_true rfl) (by show 2 ≤ 3; omega) rfl
theorem m38_58u : M38 58 [l0, l1, l2, l3, l4, l5, l6, l7, l8, l9, l10, .unset, l12, l13, l14, l15] ((.int v) :: st) H Q = M38 60 [l0, l1, l2, l3, l4, l5, l6, l7, l8, l9, l10, .val (.int v), l12, l13, l14, l15] st H Q := w_st (i := 11) (p := isI) at_58 rfl rfl rfl rfl rfl rfl
theorem m38_60 : M38 60 ls st H Q = M38 63 ls (.ref H.length :: st) (H ++ [(.object "ResponseTimeGate", D0)]) Q := (w_new (C := "ResponseTimeGate") at_60 (by rw [hNew, show rCls tables_1 y38.cls 13 = some "ResponseTimeGate" from by decide +kernel]; dsimp only; rw [if_pos (by decide +kernel)])).trans (by rw [lay0]; rfl)
theorem m38_63 : M38 63 ls ((.ref r) :: st) H Q = M38 64 ls ((.ref r) :: (.ref r) :: st) H Q := w_x at_63 rfl
theorem m38_64 : M38 64 ls st H Q = M38 66 ls (.int 8 :: st) H Q := w_con at_64 rfl (by decide)
theorem cr38_15 : nR tables_1 dn y38 15 = some (y0, prog_1_method_1_code, 4, none, 1, 42) := nR_of (cR_of (by decide +kernel) rc_0 dn_0 dn_38 (sig := ⟨[.int], none⟩) (by decide +kernel) (by decide +kernel) rfl rfl) rfl (by decide +kernel) rfl
theorem cr38_15_o : oR tables_1 dn y38 15 = none := by decide +kernel
theorem m38_66 (a0 : Int32) (u0 : Nat) : M38 66 ls [.int a0, .ref r, .ref u0] H Q = M0 0 [.val (.ref r), .val (.int a0), .unset, .unset] [] H (fun v H1 => M38 69 ls (v.toList ++ [.ref u0]) H1 Q) := w_spec (as := [.int a0]) (rest := [.ref u0]) (a := r) at_66 cr38_15_o cr38_15 rfl (Nat.le_of_ble_eq_true rfl) (by show 2 ≤ 4; omega) rfl
theorem m38_69u : M38 69 [l0, l1, l2, l3, l4, l5, l6, l7, l8, l9, l10, l11, .unset, l13, l14, l15] ((.ref r) :: st) H Q = M38 71 [l0, l1, l2, l3, l4, l5, l6, l7, l8, l9, l10, l11, .val (.ref r), l13, l14, l15] st H Q := w_st (i := 12) (p := Value.isRef) at_69 rfl rfl rfl rfl rfl rfl
theorem m38_71 : M38 71 [l0, l1, l2, l3, l4, l5, l6, l7, l8, l9, l10, l11, .val (.ref r), l13, l14, l15] st H Q = M38 73 [l0, l1, l2, l3, l4, l5, l6, l7, l8, l9, l10, l11, .val (.ref r), l13, l14, l15] (.ref r :: st) H Q := w_x at_71 rfl
theorem m38_73 : M38 73 ls st H Q = M38 75 ls (.int 24 :: st) H Q := w_con at_73 rfl (by decide)
theorem m38_75 : M38 75 [l0, l1, l2, l3, l4, l5, l6, l7, l8, .val (.int v), l10, l11, l12, l13, l14, l15] st H Q = M38 77 [l0, l1, l2, l3, l4, l5, l6, l7, l8, .val (.int v), l10, l11, l12, l13, l14, l15] (.int v :: st) H Q := w_x at_75 rfl
theorem m38_77 : M38 77 [l0, l1, l2, l3, l4, l5, .val (.int v), l7, l8, l9, l10, l11, l12, l13, l14, l15] st H Q = M38 79 [l0, l1, l2, l3, l4, l5, .val (.int v), l7, l8, l9, l10, l11, l12, l13, l14, l15] (.int v :: st) H Q := w_x at_77 rfl
theorem m38_79 : M38 79 ls st H Q = M38 80 ls (.int 1 :: st) H Q := w_con at_79 rfl (by decide)
theorem cr38_18 : vR tables_1 dn y38 18 = some (false, y2, prog_1_method_2_code, 6, (some .int), 4, 39) := vR_of (cR_of (by decide +kernel) rc_2 dn_2 dn_38 (sig := ⟨[.int, .int, .int, .int], some .int⟩) (by decide +kernel) (by decide +kernel) rfl rfl) (by decide +kernel) (by decide +kernel) (by decide +kernel)
theorem m38_80 (a0 : Int32) (a1 : Int32) (a2 : Int32) (a3 : Int32) : M38 80 ls [.int a3, .int a2, .int a1, .int a0, .ref b] (put b pre s A post) Q = M2 0 [.val (.ref b), .val (.int a0), .val (.int a1), .val (.int a2), .val (.int a3), .unset] [] (put b pre s A post) (fun v H1 => M38 83 ls (v.toList ++ []) H1 Q) := w_virt (as := [.int a3, .int a2, .int a1, .int a0]) (rest := []) (a := b) at_80 cr38_18 put_o rfl rfl (Nat.le_of_ble_eq_true rfl) (by show 5 ≤ 6; omega) rfl
theorem m38_83 : M38 83 ls (.int x :: st) H Q = if x = 0 then M38 88 ls st H Q else M38 86 ls st H Q := w_if at_83 (z_eq x) rfl
theorem m38_86 : M38 86 ls st H Q = M38 87 ls (.int 0 :: st) H Q := w_con at_86 rfl (by decide)
theorem m38_87 : M38 87 ls (.int z :: st) H Q = Q (some (.int (nar .boolean z))) H := w_iretN at_87 rfl (by simp)
theorem m38_88 : M38 88 [l0, l1, l2, l3, l4, l5, l6, l7, l8, l9, l10, l11, .val (.ref r), l13, l14, l15] st H Q = M38 90 [l0, l1, l2, l3, l4, l5, l6, l7, l8, l9, l10, l11, .val (.ref r), l13, l14, l15] (.ref r :: st) H Q := w_x at_88 rfl
theorem m38_90 : M38 90 [l0, l1, l2, l3, l4, l5, l6, l7, l8, l9, l10, .val (.int v), l12, l13, l14, l15] st H Q = M38 92 [l0, l1, l2, l3, l4, l5, l6, l7, l8, l9, l10, .val (.int v), l12, l13, l14, l15] (.int v :: st) H Q := w_x at_90 rfl
theorem m38_92 : M38 92 ls st H Q = M38 93 ls (.int 0 :: st) H Q := w_con at_92 rfl (by decide)
theorem m38_93 : M38 93 [l0, l1, l2, l3, l4, l5, l6, .val (.int v), l8, l9, l10, l11, l12, l13, l14, l15] st H Q = M38 95 [l0, l1, l2, l3, l4, l5, l6, .val (.int v), l8, l9, l10, l11, l12, l13, l14, l15] (.int v :: st) H Q := w_x at_93 rfl
theorem cr38_22 : vR tables_1 dn y38 22 = some (false, y4, prog_1_method_4_code, 4, (some .int), 3, 38) := vR_of (cR_of (by decide +kernel) rc_4 dn_4 dn_38 (sig := ⟨[.int, .int, .int], some .int⟩) (by decide +kernel) (by decide +kernel) rfl rfl) (by decide +kernel) (by decide +kernel) (by decide +kernel)
theorem m38_95 (a0 : Int32) (a1 : Int32) (a2 : Int32) : M38 95 ls [.int a2, .int a1, .int a0, .ref b] (put b pre s A post) Q = M4 0 [.val (.ref b), .val (.int a0), .val (.int a1), .val (.int a2)] [] (put b pre s A post) (fun v H1 => M38 98 ls (v.toList ++ []) H1 Q) := w_virt (as := [.int a2, .int a1, .int a0]) (rest := []) (a := b) at_95 cr38_22 put_o rfl rfl (Nat.le_of_ble_eq_true rfl) (by show 4 ≤ 4; omega) rfl
theorem m38_98 : M38 98 ls (.int x :: st) H Q = if x = 0 then M38 103 ls st H Q else M38 101 ls st H Q := w_if at_98 (z_eq x) rfl
theorem m38_101 : M38 101 ls st H Q = M38 102 ls (.int 0 :: st) H Q := w_con at_101 rfl (by decide)
theorem m38_102 : M38 102 ls (.int z :: st) H Q = Q (some (.int (nar .boolean z))) H := w_iretN at_102 rfl (by simp)
theorem m38_103 : M38 103 [l0, l1, l2, l3, l4, l5, l6, l7, l8, l9, l10, l11, .val (.ref r), l13, l14, l15] st H Q = M38 105 [l0, l1, l2, l3, l4, l5, l6, l7, l8, l9, l10, l11, .val (.ref r), l13, l14, l15] (.ref r :: st) H Q := w_x at_103 rfl
theorem cr38_26 : vR tables_1 dn y38 26 = some (false, y6, prog_1_method_6_code, 4, (some .int), 0, 0) := vR_of (cR_of (by decide +kernel) rc_6 dn_6 dn_38 (sig := ⟨[], some .int⟩) (by decide +kernel) (by decide +kernel) rfl rfl) (by decide +kernel) (by decide +kernel) (by decide +kernel)
theorem m38_105 : M38 105 ls [.ref b] (put b pre s A post) Q = M6 0 [.val (.ref b), .unset, .unset, .unset] [] (put b pre s A post) (fun v H1 => M38 108 ls (v.toList ++ []) H1 Q) := w_virt (as := []) (rest := []) (a := b) at_105 cr38_26 put_o rfl rfl (Nat.le_of_ble_eq_true rfl) (by show 1 ≤ 4; omega) rfl
theorem m38_108 : M38 108 ls (.int x :: st) H Q = if x = 0 then M38 113 ls st H Q else M38 111 ls st H Q := w_if at_108 (z_eq x) rfl
theorem m38_111 : M38 111 ls st H Q = M38 112 ls (.int 0 :: st) H Q := w_con at_111 rfl (by decide)
theorem m38_112 : M38 112 ls (.int z :: st) H Q = Q (some (.int (nar .boolean z))) H := w_iretN at_112 rfl (by simp)
theorem m38_113 : M38 113 [l0, l1, l2, l3, l4, l5, l6, l7, l8, l9, l10, l11, .val (.ref r), l13, l14, l15] st H Q = M38 115 [l0, l1, l2, l3, l4, l5, l6, l7, l8, l9, l10, l11, .val (.ref r), l13, l14, l15] (.ref r :: st) H Q := w_x at_113 rfl
theorem m38_115 : M38 115 ls st H Q = M38 117 ls (.int 24 :: st) H Q := w_con at_115 rfl (by decide)
theorem m38_117 : M38 117 [l0, l1, l2, l3, l4, l5, l6, l7, l8, l9, .val (.int v), l11, l12, l13, l14, l15] st H Q = M38 119 [l0, l1, l2, l3, l4, l5, l6, l7, l8, l9, .val (.int v), l11, l12, l13, l14, l15] (.int v :: st) H Q := w_x at_117 rfl
theorem m38_119 : M38 119 [l0, l1, l2, l3, l4, l5, l6, l7, .val (.int v), l9, l10, l11, l12, l13, l14, l15] st H Q = M38 121 [l0, l1, l2, l3, l4, l5, l6, l7, .val (.int v), l9, l10, l11, l12, l13, l14, l15] (.int v :: st) H Q := w_x at_119 rfl
theorem m38_121 : M38 121 ls st H Q = M38 122 ls (.int 2 :: st) H Q := w_con at_121 rfl (by decide)
theorem m38_122 (a0 : Int32) (a1 : Int32) (a2 : Int32) (a3 : Int32) : M38 122 ls [.int a3, .int a2, .int a1, .int a0, .ref b] (put b pre s A post) Q = M2 0 [.val (.ref b), .val (.int a0), .val (.int a1), .val (.int a2), .val (.int a3), .unset] [] (put b pre s A post) (fun v H1 => M38 125 ls (v.toList ++ []) H1 Q) := w_virt (as := [.int a3, .int a2, .int a1, .int a0]) (rest := []) (a := b) at_122 cr38_18 put_o rfl rfl (Nat.le_of_ble_eq_true rfl) (by show 5 ≤ 6; omega) rfl
theorem m38_125 : M38 125 ls (.int x :: st) H Q = if x = 0 then M38 130 ls st H Q else M38 128 ls st H Q := w_if at_125 (z_eq x) rfl
theorem m38_128 : M38 128 ls st H Q = M38 129 ls (.int 0 :: st) H Q := w_con at_128 rfl (by decide)
theorem m38_129 : M38 129 ls (.int z :: st) H Q = Q (some (.int (nar .boolean z))) H := w_iretN at_129 rfl (by simp)
theorem m38_130 : M38 130 [l0, l1, l2, l3, l4, l5, l6, l7, l8, l9, l10, l11, .val (.ref r), l13, l14, l15] st H Q = M38 132 [l0, l1, l2, l3, l4, l5, l6, l7, l8, l9, l10, l11, .val (.ref r), l13, l14, l15] (.ref r :: st) H Q := w_x at_130 rfl
theorem m38_132 : M38 132 [l0, l1, l2, l3, l4, l5, l6, l7, l8, l9, l10, .val (.int v), l12, l13, l14, l15] st H Q = M38 134 [l0, l1, l2, l3, l4, l5, l6, l7, l8, l9, l10, .val (.int v), l12, l13, l14, l15] (.int v :: st) H Q := w_x at_132 rfl
theorem m38_134 : M38 134 ls st H Q = M38 135 ls (.int 0 :: st) H Q := w_con at_134 rfl (by decide)
theorem m38_135 : M38 135 ls st H Q = M38 136 ls (.int 1 :: st) H Q := w_con at_135 rfl (by decide)
theorem m38_136 (a0 : Int32) (a1 : Int32) (a2 : Int32) : M38 136 ls [.int a2, .int a1, .int a0, .ref b] (put b pre s A post) Q = M4 0 [.val (.ref b), .val (.int a0), .val (.int a1), .val (.int a2)] [] (put b pre s A post) (fun v H1 => M38 139 ls (v.toList ++ []) H1 Q) := w_virt (as := [.int a2, .int a1, .int a0]) (rest := []) (a := b) at_136 cr38_22 put_o rfl rfl (Nat.le_of_ble_eq_true rfl) (by show 4 ≤ 4; omega) rfl
theorem m38_139 : M38 139 ls (.int x :: st) H Q = if x = 0 then M38 144 ls st H Q else M38 142 ls st H Q := w_if at_139 (z_eq x) rfl
theorem m38_142 : M38 142 ls st H Q = M38 143 ls (.int 0 :: st) H Q := w_con at_142 rfl (by decide)
theorem m38_143 : M38 143 ls (.int z :: st) H Q = Q (some (.int (nar .boolean z))) H := w_iretN at_143 rfl (by simp)
theorem m38_144 : M38 144 [l0, l1, l2, l3, l4, l5, l6, l7, l8, l9, l10, l11, .val (.ref r), l13, l14, l15] st H Q = M38 146 [l0, l1, l2, l3, l4, l5, l6, l7, l8, l9, l10, l11, .val (.ref r), l13, l14, l15] (.ref r :: st) H Q := w_x at_144 rfl
theorem m38_146 : M38 146 ls [.ref b] (put b pre s A post) Q = M6 0 [.val (.ref b), .unset, .unset, .unset] [] (put b pre s A post) (fun v H1 => M38 149 ls (v.toList ++ []) H1 Q) := w_virt (as := []) (rest := []) (a := b) at_146 cr38_26 put_o rfl rfl (Nat.le_of_ble_eq_true rfl) (by show 1 ≤ 4; omega) rfl
theorem m38_149u : M38 149 [l0, l1, l2, l3, l4, l5, l6, l7, l8, l9, l10, l11, l12, .unset, l14, l15] ((.int v) :: st) H Q = M38 151 [l0, l1, l2, l3, l4, l5, l6, l7, l8, l9, l10, l11, l12, .val (.int v), l14, l15] st H Q := w_st (i := 13) (p := isI) at_149 rfl rfl rfl rfl rfl rfl
theorem m38_151 : M38 151 ls st H Q = M38 152 ls (.int (-1) :: st) H Q := w_con at_151 rfl (by decide)
theorem m38_152u : M38 152 [l0, l1, l2, l3, l4, l5, l6, l7, l8, l9, l10, l11, l12, l13, .unset, l15] ((.int v) :: st) H Q = M38 154 [l0, l1, l2, l3, l4, l5, l6, l7, l8, l9, l10, l11, l12, l13, .val (.int v), l15] st H Q := w_st (i := 14) (p := isI) at_152 rfl rfl rfl rfl rfl rfl
theorem m38_154 : M38 154 [l0, l1, l2, l3, l4, l5, .val (.int v), l7, l8, l9, l10, l11, l12, l13, l14, l15] st H Q = M38 156 [l0, l1, l2, l3, l4, l5, .val (.int v), l7, l8, l9, l10, l11, l12, l13, l14, l15] (.int v :: st) H Q := w_x at_154 rfl
theorem m38_156 : M38 156 [l0, l1, l2, l3, l4, l5, l6, l7, .val (.int v), l9, l10, l11, l12, l13, l14, l15] st H Q = M38 158 [l0, l1, l2, l3, l4, l5, l6, l7, .val (.int v), l9, l10, l11, l12, l13, l14, l15] (.int v :: st) H Q := w_x at_156 rfl
theorem m38_158 : M38 158 ls (.int y :: .int x :: st) H Q = M38 159 ls (.int (x + y) :: st) H Q := w_x at_158 rfl
theorem m38_159 : M38 159 [l0, l1, l2, l3, l4, l5, l6, l7, l8, .val (.int v), l10, l11, l12, l13, l14, l15] st H Q = M38 161 [l0, l1, l2, l3, l4, l5, l6, l7, l8, .val (.int v), l10, l11, l12, l13, l14, l15] (.int v :: st) H Q := w_x at_159 rfl
theorem m38_161 : M38 161 ls (.int y :: .int x :: st) H Q = if y < x then M38 164 ls st H Q else M38 170 ls st H Q := w_icmpN at_161 (i_le x y) rfl
theorem m38_164 : M38 164 ls st H Q = M38 165 ls (.int 0 :: st) H Q := w_con at_164 rfl (by decide)
theorem m38_165i : M38 165 [l0, l1, l2, l3, l4, l5, l6, l7, l8, l9, l10, l11, l12, l13, .val (.int z), l15] ((.int v) :: st) H Q = M38 167 [l0, l1, l2, l3, l4, l5, l6, l7, l8, l9, l10, l11, l12, l13, .val (.int v), l15] st H Q := w_st (i := 14) (p := isI) at_165 rfl rfl rfl rfl rfl rfl
theorem m38_167 : M38 167 ls st H Q = M38 183 ls st H Q := w_x at_167 rfl
theorem m38_170 : M38 170 [l0, l1, l2, l3, l4, l5, l6, l7, .val (.int v), l9, l10, l11, l12, l13, l14, l15] st H Q = M38 172 [l0, l1, l2, l3, l4, l5, l6, l7, .val (.int v), l9, l10, l11, l12, l13, l14, l15] (.int v :: st) H Q := w_x at_170 rfl
theorem m38_172 : M38 172 [l0, l1, l2, l3, l4, l5, l6, .val (.int v), l8, l9, l10, l11, l12, l13, l14, l15] st H Q = M38 174 [l0, l1, l2, l3, l4, l5, l6, .val (.int v), l8, l9, l10, l11, l12, l13, l14, l15] (.int v :: st) H Q := w_x at_172 rfl
theorem m38_174 : M38 174 ls (.int y :: .int x :: st) H Q = M38 175 ls (.int (x + y) :: st) H Q := w_x at_174 rfl
theorem m38_175 : M38 175 [l0, l1, l2, l3, l4, l5, l6, l7, l8, l9, .val (.int v), l11, l12, l13, l14, l15] st H Q = M38 177 [l0, l1, l2, l3, l4, l5, l6, l7, l8, l9, .val (.int v), l11, l12, l13, l14, l15] (.int v :: st) H Q := w_x at_175 rfl
theorem m38_177 : M38 177 ls (.int y :: .int x :: st) H Q = if y < x then M38 180 ls st H Q else M38 183 ls st H Q := w_icmpN at_177 (i_le x y) rfl
theorem m38_180 : M38 180 ls st H Q = M38 181 ls (.int 1 :: st) H Q := w_con at_180 rfl (by decide)
theorem m38_181i : M38 181 [l0, l1, l2, l3, l4, l5, l6, l7, l8, l9, l10, l11, l12, l13, .val (.int z), l15] ((.int v) :: st) H Q = M38 183 [l0, l1, l2, l3, l4, l5, l6, l7, l8, l9, l10, l11, l12, l13, .val (.int v), l15] st H Q := w_st (i := 14) (p := isI) at_181 rfl rfl rfl rfl rfl rfl
theorem m38_183 : M38 183 [l0, l1, l2, l3, l4, l5, l6, l7, l8, l9, l10, l11, l12, l13, .val (.int v), l15] st H Q = M38 185 [l0, l1, l2, l3, l4, l5, l6, l7, l8, l9, l10, l11, l12, l13, .val (.int v), l15] (.int v :: st) H Q := w_x at_183 rfl
theorem m38_185 : M38 185 ls (.int x :: st) H Q = if x < 0 then M38 188 ls st H Q else M38 192 ls st H Q := w_ifN at_185 (z_ge x) rfl
theorem m38_188 : M38 188 ls st H Q = M38 189 ls (.int 1 :: st) H Q := w_con at_188 rfl (by decide)
theorem m38_189 : M38 189 ls st H Q = M38 193 ls st H Q := w_x at_189 rfl
theorem m38_192 : M38 192 ls st H Q = M38 193 ls (.int 0 :: st) H Q := w_con at_192 rfl (by decide)
theorem m38_193u : M38 193 [l0, l1, l2, l3, l4, l5, l6, l7, l8, l9, l10, l11, l12, l13, l14, .unset] ((.int v) :: st) H Q = M38 195 [l0, l1, l2, l3, l4, l5, l6, l7, l8, l9, l10, l11, l12, l13, l14, .val (.int v)] st H Q := w_st (i := 15) (p := isI) at_193 rfl rfl rfl rfl rfl rfl
theorem m38_195 : M38 195 [l0, l1, l2, l3, l4, l5, l6, l7, l8, l9, l10, l11, l12, .val (.int v), l14, l15] st H Q = M38 197 [l0, l1, l2, l3, l4, l5, l6, l7, l8, l9, l10, l11, l12, .val (.int v), l14, l15] (.int v :: st) H Q := w_x at_195 rfl
theorem m38_197 : M38 197 [l0, l1, l2, l3, l4, l5, l6, l7, l8, l9, l10, l11, l12, l13, l14, .val (.int v)] st H Q = M38 199 [l0, l1, l2, l3, l4, l5, l6, l7, l8, l9, l10, l11, l12, l13, l14, .val (.int v)] (.int v :: st) H Q := w_x at_197 rfl
theorem m38_199 : M38 199 ls (.int x :: st) H Q = if x = 0 then M38 206 ls st H Q else M38 202 ls st H Q := w_if at_199 (z_eq x) rfl
theorem m38_202 : M38 202 ls st H Q = M38 203 ls (.int 1 :: st) H Q := w_con at_202 rfl (by decide)
theorem m38_203 : M38 203 ls st H Q = M38 208 ls st H Q := w_x at_203 rfl
theorem m38_206 : M38 206 ls st H Q = M38 208 ls (.int (-7) :: st) H Q := w_con at_206 rfl (by decide)
theorem m38_208 : M38 208 ls (.int y :: .int x :: st) H Q = if x = y then M38 213 ls st H Q else M38 211 ls st H Q := w_icmp at_208 (i_eq x y) rfl
theorem m38_211 : M38 211 ls st H Q = M38 212 ls (.int 0 :: st) H Q := w_con at_211 rfl (by decide)
theorem m38_212 : M38 212 ls (.int z :: st) H Q = Q (some (.int (nar .boolean z))) H := w_iretN at_212 rfl (by simp)
theorem m38_213 : M38 213 [l0, l1, l2, l3, l4, l5, l6, l7, l8, l9, l10, l11, .val (.ref r), l13, l14, l15] st H Q = M38 215 [l0, l1, l2, l3, l4, l5, l6, l7, l8, l9, l10, l11, .val (.ref r), l13, l14, l15] (.ref r :: st) H Q := w_x at_213 rfl
theorem cr38_30 : vR tables_1 dn y38 30 = some (false, y16, prog_1_method_22_code, 1, (some .int), 0, 58) := vR_of (cR_of (by decide +kernel) rc_16 dn_16 dn_38 (sig := ⟨[], some .int⟩) (by decide +kernel) (by decide +kernel) rfl rfl) (by decide +kernel) (by decide +kernel) (by decide +kernel)
theorem m38_215 : M38 215 ls [.ref b] (put b pre s A post) Q = M16 0 [.val (.ref b)] [] (put b pre s A post) (fun v H1 => M38 218 ls (v.toList ++ []) H1 Q) := w_virt (as := []) (rest := []) (a := b) at_215 cr38_30 put_o rfl rfl (Nat.le_of_ble_eq_true rfl) (by show 1 ≤ 1; omega) rfl
theorem m38_218 : M38 218 [l0, l1, l2, l3, l4, l5, l6, l7, l8, l9, l10, l11, l12, l13, .val (.int v), l15] st H Q = M38 220 [l0, l1, l2, l3, l4, l5, l6, l7, l8, l9, l10, l11, l12, l13, .val (.int v), l15] (.int v :: st) H Q := w_x at_218 rfl
theorem m38_220 : M38 220 ls (.int y :: .int x :: st) H Q = if x = y then M38 225 ls st H Q else M38 223 ls st H Q := w_icmp at_220 (i_eq x y) rfl
theorem m38_223 : M38 223 ls st H Q = M38 224 ls (.int 0 :: st) H Q := w_con at_223 rfl (by decide)
theorem m38_224 : M38 224 ls (.int z :: st) H Q = Q (some (.int (nar .boolean z))) H := w_iretN at_224 rfl (by simp)
theorem m38_225 : M38 225 [l0, l1, l2, l3, l4, l5, l6, l7, l8, l9, l10, l11, .val (.ref r), l13, l14, l15] st H Q = M38 227 [l0, l1, l2, l3, l4, l5, l6, l7, l8, l9, l10, l11, .val (.ref r), l13, l14, l15] (.ref r :: st) H Q := w_x at_225 rfl
theorem cr38_33 : vR tables_1 dn y38 33 = some (false, y17, prog_1_method_17_code, 1, (some .int), 0, 58) := vR_of (cR_of (by decide +kernel) rc_17 dn_17 dn_38 (sig := ⟨[], some .int⟩) (by decide +kernel) (by decide +kernel) rfl rfl) (by decide +kernel) (by decide +kernel) (by decide +kernel)
theorem m38_227 : M38 227 ls [.ref b] (put b pre s A post) Q = M17 0 [.val (.ref b)] [] (put b pre s A post) (fun v H1 => M38 230 ls (v.toList ++ []) H1 Q) := w_virt (as := []) (rest := []) (a := b) at_227 cr38_33 put_o rfl rfl (Nat.le_of_ble_eq_true rfl) (by show 1 ≤ 1; omega) rfl
theorem m38_230 : M38 230 [l0, l1, l2, l3, l4, l5, l6, l7, l8, l9, l10, l11, l12, l13, l14, .val (.int v)] st H Q = M38 232 [l0, l1, l2, l3, l4, l5, l6, l7, l8, l9, l10, l11, l12, l13, l14, .val (.int v)] (.int v :: st) H Q := w_x at_230 rfl
theorem m38_232 : M38 232 ls (.int x :: st) H Q = if x = 0 then M38 239 ls st H Q else M38 235 ls st H Q := w_if at_232 (z_eq x) rfl
theorem m38_235 : M38 235 ls st H Q = M38 236 ls (.int 2 :: st) H Q := w_con at_235 rfl (by decide)
theorem m38_236 : M38 236 ls st H Q = M38 240 ls st H Q := w_x at_236 rfl
theorem m38_239 : M38 239 ls st H Q = M38 240 ls (.int 1 :: st) H Q := w_con at_239 rfl (by decide)
theorem m38_240 : M38 240 ls (.int y :: .int x :: st) H Q = if x = y then M38 245 ls st H Q else M38 243 ls st H Q := w_icmp at_240 (i_eq x y) rfl
theorem m38_243 : M38 243 ls st H Q = M38 244 ls (.int 0 :: st) H Q := w_con at_243 rfl (by decide)
theorem m38_244 : M38 244 ls (.int z :: st) H Q = Q (some (.int (nar .boolean z))) H := w_iretN at_244 rfl (by simp)
theorem m38_245 : M38 245 [l0, l1, l2, l3, l4, l5, l6, l7, l8, l9, l10, l11, .val (.ref r), l13, l14, l15] st H Q = M38 247 [l0, l1, l2, l3, l4, l5, l6, l7, l8, l9, l10, l11, .val (.ref r), l13, l14, l15] (.ref r :: st) H Q := w_x at_245 rfl
theorem m38_247 : M38 247 ls st H Q = M38 248 ls (.int 0 :: st) H Q := w_con at_247 rfl (by decide)
theorem cr38_36 : vR tables_1 dn y38 36 = some (false, y18, prog_1_method_18_code, 2, (some .int), 1, 44) := vR_of (cR_of (by decide +kernel) rc_18 dn_18 dn_38 (sig := ⟨[.int], some .int⟩) (by decide +kernel) (by decide +kernel) rfl rfl) (by decide +kernel) (by decide +kernel) (by decide +kernel)
theorem m38_248 (a0 : Int32) : M38 248 ls [.int a0, .ref b] (put b pre s A post) Q = M18 0 [.val (.ref b), .val (.int a0)] [] (put b pre s A post) (fun v H1 => M38 251 ls (v.toList ++ []) H1 Q) := w_virt (as := [.int a0]) (rest := []) (a := b) at_248 cr38_36 put_o rfl rfl (Nat.le_of_ble_eq_true rfl) (by show 2 ≤ 2; omega) rfl
theorem m38_251 : M38 251 [l0, l1, l2, l3, l4, l5, l6, l7, l8, l9, l10, l11, l12, l13, l14, .val (.int v)] st H Q = M38 253 [l0, l1, l2, l3, l4, l5, l6, l7, l8, l9, l10, l11, l12, l13, l14, .val (.int v)] (.int v :: st) H Q := w_x at_251 rfl
theorem m38_253 : M38 253 ls (.int x :: st) H Q = if x = 0 then M38 264 ls st H Q else M38 256 ls st H Q := w_if at_253 (z_eq x) rfl
theorem m38_256 : M38 256 [l0, l1, l2, l3, l4, l5, .val (.int v), l7, l8, l9, l10, l11, l12, l13, l14, l15] st H Q = M38 258 [l0, l1, l2, l3, l4, l5, .val (.int v), l7, l8, l9, l10, l11, l12, l13, l14, l15] (.int v :: st) H Q := w_x at_256 rfl
theorem m38_258 : M38 258 [l0, l1, l2, l3, l4, l5, l6, l7, .val (.int v), l9, l10, l11, l12, l13, l14, l15] st H Q = M38 260 [l0, l1, l2, l3, l4, l5, l6, l7, .val (.int v), l9, l10, l11, l12, l13, l14, l15] (.int v :: st) H Q := w_x at_258 rfl
theorem m38_260 : M38 260 ls (.int y :: .int x :: st) H Q = M38 261 ls (.int (x + y) :: st) H Q := w_x at_260 rfl
theorem m38_261 : M38 261 ls st H Q = M38 266 ls st H Q := w_x at_261 rfl
theorem m38_264 : M38 264 [l0, l1, l2, l3, l4, l5, .val (.int v), l7, l8, l9, l10, l11, l12, l13, l14, l15] st H Q = M38 266 [l0, l1, l2, l3, l4, l5, .val (.int v), l7, l8, l9, l10, l11, l12, l13, l14, l15] (.int v :: st) H Q := w_x at_264 rfl
theorem m38_266 : M38 266 ls (.int y :: .int x :: st) H Q = if x = y then M38 271 ls st H Q else M38 269 ls st H Q := w_icmp at_266 (i_eq x y) rfl
theorem m38_269 : M38 269 ls st H Q = M38 270 ls (.int 0 :: st) H Q := w_con at_269 rfl (by decide)
theorem m38_270 : M38 270 ls (.int z :: st) H Q = Q (some (.int (nar .boolean z))) H := w_iretN at_270 rfl (by simp)
theorem m38_271 : M38 271 [l0, l1, l2, l3, l4, l5, l6, l7, l8, l9, l10, l11, .val (.ref r), l13, l14, l15] st H Q = M38 273 [l0, l1, l2, l3, l4, l5, l6, l7, l8, l9, l10, l11, .val (.ref r), l13, l14, l15] (.ref r :: st) H Q := w_x at_271 rfl
theorem m38_273 : M38 273 ls st H Q = M38 274 ls (.int 0 :: st) H Q := w_con at_273 rfl (by decide)
theorem cr38_40 : vR tables_1 dn y38 40 = some (false, y20, prog_1_method_19_code, 2, (some .int), 1, 44) := vR_of (cR_of (by decide +kernel) rc_20 dn_20 dn_38 (sig := ⟨[.int], some .int⟩) (by decide +kernel) (by decide +kernel) rfl rfl) (by decide +kernel) (by decide +kernel) (by decide +kernel)
theorem m38_274 (a0 : Int32) : M38 274 ls [.int a0, .ref b] (put b pre s A post) Q = M20 0 [.val (.ref b), .val (.int a0)] [] (put b pre s A post) (fun v H1 => M38 277 ls (v.toList ++ []) H1 Q) := w_virt (as := [.int a0]) (rest := []) (a := b) at_274 cr38_40 put_o rfl rfl (Nat.le_of_ble_eq_true rfl) (by show 2 ≤ 2; omega) rfl
theorem m38_277 : M38 277 ls (.int x :: st) H Q = if x = 0 then M38 282 ls st H Q else M38 280 ls st H Q := w_if at_277 (z_eq x) rfl
theorem m38_280 : M38 280 ls st H Q = M38 281 ls (.int 0 :: st) H Q := w_con at_280 rfl (by decide)
theorem m38_281 : M38 281 ls (.int z :: st) H Q = Q (some (.int (nar .boolean z))) H := w_iretN at_281 rfl (by simp)
theorem m38_282 : M38 282 [l0, l1, l2, l3, l4, l5, l6, l7, l8, l9, l10, l11, .val (.ref r), l13, l14, l15] st H Q = M38 284 [l0, l1, l2, l3, l4, l5, l6, l7, l8, l9, l10, l11, .val (.ref r), l13, l14, l15] (.ref r :: st) H Q := w_x at_282 rfl
theorem m38_284 : M38 284 ls st H Q = M38 285 ls (.int 1 :: st) H Q := w_con at_284 rfl (by decide)
theorem m38_285 (a0 : Int32) : M38 285 ls [.int a0, .ref b] (put b pre s A post) Q = M18 0 [.val (.ref b), .val (.int a0)] [] (put b pre s A post) (fun v H1 => M38 288 ls (v.toList ++ []) H1 Q) := w_virt (as := [.int a0]) (rest := []) (a := b) at_285 cr38_36 put_o rfl rfl (Nat.le_of_ble_eq_true rfl) (by show 2 ≤ 2; omega) rfl
theorem m38_288 : M38 288 [l0, l1, l2, l3, l4, l5, l6, l7, l8, l9, l10, l11, l12, l13, l14, .val (.int v)] st H Q = M38 290 [l0, l1, l2, l3, l4, l5, l6, l7, l8, l9, l10, l11, l12, l13, l14, .val (.int v)] (.int v :: st) H Q := w_x at_288 rfl
theorem m38_290 : M38 290 ls (.int x :: st) H Q = if x = 0 then M38 301 ls st H Q else M38 293 ls st H Q := w_if at_290 (z_eq x) rfl
theorem m38_293 : M38 293 [l0, l1, l2, l3, l4, l5, l6, l7, .val (.int v), l9, l10, l11, l12, l13, l14, l15] st H Q = M38 295 [l0, l1, l2, l3, l4, l5, l6, l7, .val (.int v), l9, l10, l11, l12, l13, l14, l15] (.int v :: st) H Q := w_x at_293 rfl
theorem m38_295 : M38 295 [l0, l1, l2, l3, l4, l5, l6, .val (.int v), l8, l9, l10, l11, l12, l13, l14, l15] st H Q = M38 297 [l0, l1, l2, l3, l4, l5, l6, .val (.int v), l8, l9, l10, l11, l12, l13, l14, l15] (.int v :: st) H Q := w_x at_295 rfl
theorem m38_297 : M38 297 ls (.int y :: .int x :: st) H Q = M38 298 ls (.int (x + y) :: st) H Q := w_x at_297 rfl
theorem m38_298 : M38 298 ls st H Q = M38 302 ls st H Q := w_x at_298 rfl
theorem m38_301 : M38 301 ls st H Q = M38 302 ls (.int (-1) :: st) H Q := w_con at_301 rfl (by decide)
theorem m38_302 : M38 302 ls (.int y :: .int x :: st) H Q = if x = y then M38 307 ls st H Q else M38 305 ls st H Q := w_icmp at_302 (i_eq x y) rfl
theorem m38_305 : M38 305 ls st H Q = M38 306 ls (.int 0 :: st) H Q := w_con at_305 rfl (by decide)
theorem m38_306 : M38 306 ls (.int z :: st) H Q = Q (some (.int (nar .boolean z))) H := w_iretN at_306 rfl (by simp)
theorem m38_307 : M38 307 [l0, l1, l2, l3, l4, l5, l6, l7, l8, l9, l10, l11, .val (.ref r), l13, l14, l15] st H Q = M38 309 [l0, l1, l2, l3, l4, l5, l6, l7, l8, l9, l10, l11, .val (.ref r), l13, l14, l15] (.ref r :: st) H Q := w_x at_307 rfl
theorem m38_309 : M38 309 ls st H Q = M38 310 ls (.int 1 :: st) H Q := w_con at_309 rfl (by decide)
theorem m38_310 (a0 : Int32) : M38 310 ls [.int a0, .ref b] (put b pre s A post) Q = M20 0 [.val (.ref b), .val (.int a0)] [] (put b pre s A post) (fun v H1 => M38 313 ls (v.toList ++ []) H1 Q) := w_virt (as := [.int a0]) (rest := []) (a := b) at_310 cr38_40 put_o rfl rfl (Nat.le_of_ble_eq_true rfl) (by show 2 ≤ 2; omega) rfl
theorem m38_313 : M38 313 [l0, l1, l2, l3, l4, l5, l6, l7, l8, l9, l10, l11, l12, l13, l14, .val (.int v)] st H Q = M38 315 [l0, l1, l2, l3, l4, l5, l6, l7, l8, l9, l10, l11, l12, l13, l14, .val (.int v)] (.int v :: st) H Q := w_x at_313 rfl
theorem m38_315 : M38 315 ls (.int x :: st) H Q = if x = 0 then M38 323 ls st H Q else M38 318 ls st H Q := w_if at_315 (z_eq x) rfl
theorem m38_318 : M38 318 [l0, l1, l2, l3, l4, l5, l6, .val (.int v), l8, l9, l10, l11, l12, l13, l14, l15] st H Q = M38 320 [l0, l1, l2, l3, l4, l5, l6, .val (.int v), l8, l9, l10, l11, l12, l13, l14, l15] (.int v :: st) H Q := w_x at_318 rfl
theorem m38_320 : M38 320 ls st H Q = M38 324 ls st H Q := w_x at_320 rfl
theorem m38_323 : M38 323 ls st H Q = M38 324 ls (.int (-1) :: st) H Q := w_con at_323 rfl (by decide)
theorem m38_324 : M38 324 ls (.int y :: .int x :: st) H Q = if x = y then M38 329 ls st H Q else M38 327 ls st H Q := w_icmp at_324 (i_eq x y) rfl
theorem m38_327 : M38 327 ls st H Q = M38 328 ls (.int 0 :: st) H Q := w_con at_327 rfl (by decide)
theorem m38_328 : M38 328 ls (.int z :: st) H Q = Q (some (.int (nar .boolean z))) H := w_iretN at_328 rfl (by simp)
theorem m38_329 : M38 329 [l0, l1, l2, l3, l4, l5, l6, l7, l8, l9, l10, l11, .val (.ref r), l13, l14, l15] st H Q = M38 331 [l0, l1, l2, l3, l4, l5, l6, l7, l8, l9, l10, l11, .val (.ref r), l13, l14, l15] (.ref r :: st) H Q := w_x at_329 rfl
theorem m38_331 : M38 331 [l0, l1, l2, l3, l4, l5, l6, l7, l8, l9, l10, .val (.int v), l12, l13, l14, l15] st H Q = M38 333 [l0, l1, l2, l3, l4, l5, l6, l7, l8, l9, l10, .val (.int v), l12, l13, l14, l15] (.int v :: st) H Q := w_x at_331 rfl
theorem cr38_43 : vR tables_1 dn y38 43 = some (false, y21, prog_1_method_20_code, 2, (some .int), 1, 57) := vR_of (cR_of (by decide +kernel) rc_21 dn_21 dn_38 (sig := ⟨[.int], some .int⟩) (by decide +kernel) (by decide +kernel) rfl rfl) (by decide +kernel) (by decide +kernel) (by decide +kernel)
theorem m38_333 (a0 : Int32) : M38 333 ls [.int a0, .ref b] (put b pre s A post) Q = M21 0 [.val (.ref b), .val (.int a0)] [] (put b pre s A post) (fun v H1 => M38 336 ls (v.toList ++ []) H1 Q) := w_virt (as := [.int a0]) (rest := []) (a := b) at_333 cr38_43 put_o rfl rfl (Nat.le_of_ble_eq_true rfl) (by show 2 ≤ 2; omega) rfl
theorem m38_336 : M38 336 [l0, l1, l2, l3, l4, l5, l6, l7, l8, l9, l10, l11, l12, l13, l14, .val (.int v)] st H Q = M38 338 [l0, l1, l2, l3, l4, l5, l6, l7, l8, l9, l10, l11, l12, l13, l14, .val (.int v)] (.int v :: st) H Q := w_x at_336 rfl
theorem m38_338 : M38 338 ls (.int x :: st) H Q = if x = 0 then M38 345 ls st H Q else M38 341 ls st H Q := w_if at_338 (z_eq x) rfl
theorem m38_341 : M38 341 ls st H Q = M38 342 ls (.int 2 :: st) H Q := w_con at_341 rfl (by decide)
theorem m38_342 : M38 342 ls st H Q = M38 346 ls st H Q := w_x at_342 rfl
theorem m38_345 : M38 345 ls st H Q = M38 346 ls (.int 1 :: st) H Q := w_con at_345 rfl (by decide)
theorem m38_346 : M38 346 ls (.int y :: .int x :: st) H Q = if x = y then M38 351 ls st H Q else M38 349 ls st H Q := w_icmp at_346 (i_eq x y) rfl
theorem m38_349 : M38 349 ls st H Q = M38 350 ls (.int 0 :: st) H Q := w_con at_349 rfl (by decide)
theorem m38_350 : M38 350 ls (.int z :: st) H Q = Q (some (.int (nar .boolean z))) H := w_iretN at_350 rfl (by simp)
theorem m38_351 : M38 351 [l0, l1, l2, l3, l4, l5, l6, l7, l8, l9, l10, l11, .val (.ref r), l13, l14, l15] st H Q = M38 353 [l0, l1, l2, l3, l4, l5, l6, l7, l8, l9, l10, l11, .val (.ref r), l13, l14, l15] (.ref r :: st) H Q := w_x at_351 rfl
theorem cr38_46 : vR tables_1 dn y38 46 = some (false, y22, prog_1_method_21_code, 1, (some .int), 0, 58) := vR_of (cR_of (by decide +kernel) rc_22 dn_22 dn_38 (sig := ⟨[], some .int⟩) (by decide +kernel) (by decide +kernel) rfl rfl) (by decide +kernel) (by decide +kernel) (by decide +kernel)
theorem m38_353 : M38 353 ls [.ref b] (put b pre s A post) Q = M22 0 [.val (.ref b)] [] (put b pre s A post) (fun v H1 => M38 356 ls (v.toList ++ []) H1 Q) := w_virt (as := []) (rest := []) (a := b) at_353 cr38_46 put_o rfl rfl (Nat.le_of_ble_eq_true rfl) (by show 1 ≤ 1; omega) rfl
theorem m38_356 : M38 356 ls st H Q = M38 358 ls (.int 24 :: st) H Q := w_con at_356 rfl (by decide)
theorem m38_358 : M38 358 ls (.int y :: .int x :: st) H Q = if x = y then M38 363 ls st H Q else M38 361 ls st H Q := w_icmp at_358 (i_eq x y) rfl
theorem m38_361 : M38 361 ls st H Q = M38 362 ls (.int 0 :: st) H Q := w_con at_361 rfl (by decide)
theorem m38_362 : M38 362 ls (.int z :: st) H Q = Q (some (.int (nar .boolean z))) H := w_iretN at_362 rfl (by simp)
theorem m38_363 : M38 363 [l0, l1, l2, l3, l4, l5, l6, l7, l8, l9, l10, l11, .val (.ref r), l13, l14, l15] st H Q = M38 365 [l0, l1, l2, l3, l4, l5, l6, l7, l8, l9, l10, l11, .val (.ref r), l13, l14, l15] (.ref r :: st) H Q := w_x at_363 rfl
theorem m38_365 : M38 365 ls st H Q = M38 368 ls (.int 840 :: st) H Q := w_con at_365 rfl (by decide)
theorem cr38_49 : vR tables_1 dn y38 49 = some (false, y23, prog_1_method_24_code, 4, (some .int), 1, 10) := vR_of (cR_of (by decide +kernel) rc_23 dn_23 dn_38 (sig := ⟨[.int], some .int⟩) (by decide +kernel) (by decide +kernel) rfl rfl) (by decide +kernel) (by decide +kernel) (by decide +kernel)
theorem m38_368 (a0 : Int32) : M38 368 ls [.int a0, .ref b] (put b pre s A post) Q = M23 0 [.val (.ref b), .val (.int a0), .unset, .unset] [] (put b pre s A post) (fun v H1 => M38 371 ls (v.toList ++ []) H1 Q) := w_virt (as := [.int a0]) (rest := []) (a := b) at_368 cr38_49 put_o rfl rfl (Nat.le_of_ble_eq_true rfl) (by show 2 ≤ 4; omega) rfl
theorem m38_371 : M38 371 ls st H Q = M38 373 ls (.int 24 :: st) H Q := w_con at_371 rfl (by decide)
theorem m38_373 : M38 373 ls (.int y :: .int x :: st) H Q = if x = y then M38 378 ls st H Q else M38 376 ls st H Q := w_icmp at_373 (i_eq x y) rfl
theorem m38_376 : M38 376 ls st H Q = M38 377 ls (.int 0 :: st) H Q := w_con at_376 rfl (by decide)
theorem m38_377 : M38 377 ls (.int z :: st) H Q = Q (some (.int (nar .boolean z))) H := w_iretN at_377 rfl (by simp)
theorem m38_378 : M38 378 [l0, l1, l2, l3, l4, l5, l6, l7, l8, l9, l10, l11, .val (.ref r), l13, l14, l15] st H Q = M38 380 [l0, l1, l2, l3, l4, l5, l6, l7, l8, l9, l10, l11, .val (.ref r), l13, l14, l15] (.ref r :: st) H Q := w_x at_378 rfl
theorem cr38_52 : vR tables_1 dn y38 52 = some (false, y32, prog_1_method_33_code, 1, (some .int), 0, 58) := vR_of (cR_of (by decide +kernel) rc_32 dn_32 dn_38 (sig := ⟨[], some .int⟩) (by decide +kernel) (by decide +kernel) rfl rfl) (by decide +kernel) (by decide +kernel) (by decide +kernel)
theorem m38_380 : M38 380 ls [.ref b] (put b pre s A post) Q = M32 0 [.val (.ref b)] [] (put b pre s A post) (fun v H1 => M38 383 ls (v.toList ++ []) H1 Q) := w_virt (as := []) (rest := []) (a := b) at_380 cr38_52 put_o rfl rfl (Nat.le_of_ble_eq_true rfl) (by show 1 ≤ 1; omega) rfl
theorem m38_383 : M38 383 ls st H Q = M38 385 ls (.int 24 :: st) H Q := w_con at_383 rfl (by decide)
theorem m38_385 : M38 385 ls (.int y :: .int x :: st) H Q = if x = y then M38 390 ls st H Q else M38 388 ls st H Q := w_icmp at_385 (i_eq x y) rfl
theorem m38_388 : M38 388 ls st H Q = M38 389 ls (.int 0 :: st) H Q := w_con at_388 rfl (by decide)
theorem m38_389 : M38 389 ls (.int z :: st) H Q = Q (some (.int (nar .boolean z))) H := w_iretN at_389 rfl (by simp)
theorem m38_390 : M38 390 [l0, l1, l2, l3, l4, l5, l6, l7, l8, l9, l10, l11, .val (.ref r), l13, l14, l15] st H Q = M38 392 [l0, l1, l2, l3, l4, l5, l6, l7, l8, l9, l10, l11, .val (.ref r), l13, l14, l15] (.ref r :: st) H Q := w_x at_390 rfl
theorem cr38_55 : vR tables_1 dn y38 55 = some (false, y33, prog_1_method_36_code, 1, (some .int), 0, 58) := vR_of (cR_of (by decide +kernel) rc_33 dn_33 dn_38 (sig := ⟨[], some .int⟩) (by decide +kernel) (by decide +kernel) rfl rfl) (by decide +kernel) (by decide +kernel) (by decide +kernel)
theorem m38_392 : M38 392 ls [.ref b] (put b pre s A post) Q = M33 0 [.val (.ref b)] [] (put b pre s A post) (fun v H1 => M38 395 ls (v.toList ++ []) H1 Q) := w_virt (as := []) (rest := []) (a := b) at_392 cr38_55 put_o rfl rfl (Nat.le_of_ble_eq_true rfl) (by show 1 ≤ 1; omega) rfl
theorem m38_395 : M38 395 ls (.int x :: st) H Q = if x = 0 then M38 400 ls st H Q else M38 398 ls st H Q := w_if at_395 (z_eq x) rfl
theorem m38_398 : M38 398 ls st H Q = M38 399 ls (.int 0 :: st) H Q := w_con at_398 rfl (by decide)
theorem m38_399 : M38 399 ls (.int z :: st) H Q = Q (some (.int (nar .boolean z))) H := w_iretN at_399 rfl (by simp)
theorem m38_400 : M38 400 [l0, l1, l2, l3, l4, l5, l6, l7, l8, l9, l10, l11, .val (.ref r), l13, l14, l15] st H Q = M38 402 [l0, l1, l2, l3, l4, l5, l6, l7, l8, l9, l10, l11, .val (.ref r), l13, l14, l15] (.ref r :: st) H Q := w_x at_400 rfl
theorem m38_402 : M38 402 [l0, l1, l2, l3, l4, l5, l6, l7, l8, l9, l10, .val (.int v), l12, l13, l14, l15] st H Q = M38 404 [l0, l1, l2, l3, l4, l5, l6, l7, l8, l9, l10, .val (.int v), l12, l13, l14, l15] (.int v :: st) H Q := w_x at_402 rfl
theorem cr38_58 : vR tables_1 dn y38 58 = some (false, y34, prog_1_method_38_code, 3, (some .int), 1, 56) := vR_of (cR_of (by decide +kernel) rc_34 dn_34 dn_38 (sig := ⟨[.int], some .int⟩) (by decide +kernel) (by decide +kernel) rfl rfl) (by decide +kernel) (by decide +kernel) (by decide +kernel)
theorem m38_404 (a0 : Int32) : M38 404 ls [.int a0, .ref b] (put b pre s A post) Q = M34 0 [.val (.ref b), .val (.int a0), .unset] [] (put b pre s A post) (fun v H1 => M38 407 ls (v.toList ++ []) H1 Q) := w_virt (as := [.int a0]) (rest := []) (a := b) at_404 cr38_58 put_o rfl rfl (Nat.le_of_ble_eq_true rfl) (by show 2 ≤ 3; omega) rfl
theorem m38_407 : M38 407 ls st H Q = M38 408 ls (.int (-1) :: st) H Q := w_con at_407 rfl (by decide)
theorem m38_408 : M38 408 ls (.int y :: .int x :: st) H Q = if x = y then M38 413 ls st H Q else M38 411 ls st H Q := w_icmp at_408 (i_eq x y) rfl
theorem m38_411 : M38 411 ls st H Q = M38 412 ls (.int 0 :: st) H Q := w_con at_411 rfl (by decide)
theorem m38_412 : M38 412 ls (.int z :: st) H Q = Q (some (.int (nar .boolean z))) H := w_iretN at_412 rfl (by simp)
theorem m38_413 : M38 413 [l0, l1, l2, l3, l4, l5, l6, l7, l8, l9, l10, l11, .val (.ref r), l13, l14, l15] st H Q = M38 415 [l0, l1, l2, l3, l4, l5, l6, l7, l8, l9, l10, l11, .val (.ref r), l13, l14, l15] (.ref r :: st) H Q := w_x at_413 rfl
theorem m38_415 : M38 415 ls st H Q = M38 416 ls (.int 0 :: st) H Q := w_con at_415 rfl (by decide)
theorem cr38_61 : vR tables_1 dn y38 61 = some (false, y35, prog_1_method_35_code, 2, (some .int), 1, 44) := vR_of (cR_of (by decide +kernel) rc_35 dn_35 dn_38 (sig := ⟨[.int], some .int⟩) (by decide +kernel) (by decide +kernel) rfl rfl) (by decide +kernel) (by decide +kernel) (by decide +kernel)
theorem m38_416 (a0 : Int32) : M38 416 ls [.int a0, .ref b] (put b pre s A post) Q = M35 0 [.val (.ref b), .val (.int a0)] [] (put b pre s A post) (fun v H1 => M38 419 ls (v.toList ++ []) H1 Q) := w_virt (as := [.int a0]) (rest := []) (a := b) at_416 cr38_61 put_o rfl rfl (Nat.le_of_ble_eq_true rfl) (by show 2 ≤ 2; omega) rfl
theorem m38_419 : M38 419 ls st H Q = M38 420 ls (.int 1 :: st) H Q := w_con at_419 rfl (by decide)
theorem m38_420 : M38 420 ls (.int y :: .int x :: st) H Q = if x = y then M38 425 ls st H Q else M38 423 ls st H Q := w_icmp at_420 (i_eq x y) rfl
theorem m38_423 : M38 423 ls st H Q = M38 424 ls (.int 0 :: st) H Q := w_con at_423 rfl (by decide)
theorem m38_424 : M38 424 ls (.int z :: st) H Q = Q (some (.int (nar .boolean z))) H := w_iretN at_424 rfl (by simp)
theorem m38_425 : M38 425 [l0, l1, l2, l3, l4, l5, l6, l7, l8, l9, l10, l11, .val (.ref r), l13, l14, l15] st H Q = M38 427 [l0, l1, l2, l3, l4, l5, l6, l7, l8, l9, l10, l11, .val (.ref r), l13, l14, l15] (.ref r :: st) H Q := w_x at_425 rfl
theorem m38_427 : M38 427 ls st H Q = M38 428 ls (.int 0 :: st) H Q := w_con at_427 rfl (by decide)
theorem cr38_64 : vR tables_1 dn y38 64 = some (false, y36, prog_1_method_34_code, 2, (some .int), 1, 44) := vR_of (cR_of (by decide +kernel) rc_36 dn_36 dn_38 (sig := ⟨[.int], some .int⟩) (by decide +kernel) (by decide +kernel) rfl rfl) (by decide +kernel) (by decide +kernel) (by decide +kernel)
theorem m38_428 (a0 : Int32) : M38 428 ls [.int a0, .ref b] (put b pre s A post) Q = M36 0 [.val (.ref b), .val (.int a0)] [] (put b pre s A post) (fun v H1 => M38 431 ls (v.toList ++ []) H1 Q) := w_virt (as := [.int a0]) (rest := []) (a := b) at_428 cr38_64 put_o rfl rfl (Nat.le_of_ble_eq_true rfl) (by show 2 ≤ 2; omega) rfl
theorem m38_431 : M38 431 [l0, l1, l2, l3, l4, l5, l6, l7, l8, l9, l10, l11, l12, l13, l14, .val (.int v)] st H Q = M38 433 [l0, l1, l2, l3, l4, l5, l6, l7, l8, l9, l10, l11, l12, l13, l14, .val (.int v)] (.int v :: st) H Q := w_x at_431 rfl
theorem m38_433 : M38 433 ls (.int x :: st) H Q = if x = 0 then M38 444 ls st H Q else M38 436 ls st H Q := w_if at_433 (z_eq x) rfl
theorem m38_436 : M38 436 [l0, l1, l2, l3, l4, l5, .val (.int v), l7, l8, l9, l10, l11, l12, l13, l14, l15] st H Q = M38 438 [l0, l1, l2, l3, l4, l5, .val (.int v), l7, l8, l9, l10, l11, l12, l13, l14, l15] (.int v :: st) H Q := w_x at_436 rfl
theorem m38_438 : M38 438 [l0, l1, l2, l3, l4, l5, l6, l7, .val (.int v), l9, l10, l11, l12, l13, l14, l15] st H Q = M38 440 [l0, l1, l2, l3, l4, l5, l6, l7, .val (.int v), l9, l10, l11, l12, l13, l14, l15] (.int v :: st) H Q := w_x at_438 rfl
theorem m38_440 : M38 440 ls (.int y :: .int x :: st) H Q = M38 441 ls (.int (x + y) :: st) H Q := w_x at_440 rfl
theorem m38_441 : M38 441 ls st H Q = M38 446 ls st H Q := w_x at_441 rfl
theorem m38_444 : M38 444 [l0, l1, l2, l3, l4, l5, .val (.int v), l7, l8, l9, l10, l11, l12, l13, l14, l15] st H Q = M38 446 [l0, l1, l2, l3, l4, l5, .val (.int v), l7, l8, l9, l10, l11, l12, l13, l14, l15] (.int v :: st) H Q := w_x at_444 rfl
theorem m38_446 : M38 446 ls (.int y :: .int x :: st) H Q = if x = y then M38 451 ls st H Q else M38 449 ls st H Q := w_icmp at_446 (i_eq x y) rfl
theorem m38_449 : M38 449 ls st H Q = M38 450 ls (.int 0 :: st) H Q := w_con at_449 rfl (by decide)
theorem m38_450 : M38 450 ls (.int z :: st) H Q = Q (some (.int (nar .boolean z))) H := w_iretN at_450 rfl (by simp)
theorem m38_451 : M38 451 [l0, l1, l2, l3, l4, l5, l6, l7, l8, l9, l10, l11, .val (.ref r), l13, l14, l15] st H Q = M38 453 [l0, l1, l2, l3, l4, l5, l6, l7, l8, l9, l10, l11, .val (.ref r), l13, l14, l15] (.ref r :: st) H Q := w_x at_451 rfl
theorem m38_453 : M38 453 ls st H Q = M38 454 ls (.int 1 :: st) H Q := w_con at_453 rfl (by decide)
theorem m38_454 (a0 : Int32) : M38 454 ls [.int a0, .ref b] (put b pre s A post) Q = M35 0 [.val (.ref b), .val (.int a0)] [] (put b pre s A post) (fun v H1 => M38 457 ls (v.toList ++ []) H1 Q) := w_virt (as := [.int a0]) (rest := []) (a := b) at_454 cr38_61 put_o rfl rfl (Nat.le_of_ble_eq_true rfl) (by show 2 ≤ 2; omega) rfl
theorem m38_457 : M38 457 [l0, l1, l2, l3, l4, l5, l6, l7, l8, l9, l10, l11, l12, l13, l14, .val (.int v)] st H Q = M38 459 [l0, l1, l2, l3, l4, l5, l6, l7, l8, l9, l10, l11, l12, l13, l14, .val (.int v)] (.int v :: st) H Q := w_x at_457 rfl
theorem m38_459 : M38 459 ls (.int x :: st) H Q = if x = 0 then M38 466 ls st H Q else M38 462 ls st H Q := w_if at_459 (z_eq x) rfl
theorem m38_462 : M38 462 ls st H Q = M38 463 ls (.int 1 :: st) H Q := w_con at_462 rfl (by decide)
theorem m38_463 : M38 463 ls st H Q = M38 467 ls st H Q := w_x at_463 rfl
theorem m38_466 : M38 466 ls st H Q = M38 467 ls (.int (-1) :: st) H Q := w_con at_466 rfl (by decide)
theorem m38_467 : M38 467 ls (.int y :: .int x :: st) H Q = if x = y then M38 472 ls st H Q else M38 470 ls st H Q := w_icmp at_467 (i_eq x y) rfl
theorem m38_470 : M38 470 ls st H Q = M38 471 ls (.int 0 :: st) H Q := w_con at_470 rfl (by decide)
theorem m38_471 : M38 471 ls (.int z :: st) H Q = Q (some (.int (nar .boolean z))) H := w_iretN at_471 rfl (by simp)
theorem m38_472 : M38 472 [l0, l1, l2, l3, l4, l5, l6, l7, l8, l9, l10, l11, .val (.ref r), l13, l14, l15] st H Q = M38 474 [l0, l1, l2, l3, l4, l5, l6, l7, l8, l9, l10, l11, .val (.ref r), l13, l14, l15] (.ref r :: st) H Q := w_x at_472 rfl
theorem m38_474 : M38 474 ls st H Q = M38 475 ls (.int 1 :: st) H Q := w_con at_474 rfl (by decide)
theorem m38_475 (a0 : Int32) : M38 475 ls [.int a0, .ref b] (put b pre s A post) Q = M36 0 [.val (.ref b), .val (.int a0)] [] (put b pre s A post) (fun v H1 => M38 478 ls (v.toList ++ []) H1 Q) := w_virt (as := [.int a0]) (rest := []) (a := b) at_475 cr38_64 put_o rfl rfl (Nat.le_of_ble_eq_true rfl) (by show 2 ≤ 2; omega) rfl
theorem m38_478 : M38 478 [l0, l1, l2, l3, l4, l5, l6, l7, l8, l9, l10, l11, l12, l13, l14, .val (.int v)] st H Q = M38 480 [l0, l1, l2, l3, l4, l5, l6, l7, l8, l9, l10, l11, l12, l13, l14, .val (.int v)] (.int v :: st) H Q := w_x at_478 rfl
theorem m38_480 : M38 480 ls (.int x :: st) H Q = if x = 0 then M38 488 ls st H Q else M38 483 ls st H Q := w_if at_480 (z_eq x) rfl
theorem m38_483 : M38 483 [l0, l1, l2, l3, l4, l5, l6, l7, .val (.int v), l9, l10, l11, l12, l13, l14, l15] st H Q = M38 485 [l0, l1, l2, l3, l4, l5, l6, l7, .val (.int v), l9, l10, l11, l12, l13, l14, l15] (.int v :: st) H Q := w_x at_483 rfl
theorem m38_485 : M38 485 ls st H Q = M38 489 ls st H Q := w_x at_485 rfl
theorem m38_488 : M38 488 ls st H Q = M38 489 ls (.int (-1) :: st) H Q := w_con at_488 rfl (by decide)
theorem m38_489 : M38 489 ls (.int y :: .int x :: st) H Q = if x = y then M38 492 ls st H Q else M38 496 ls st H Q := w_icmpN at_489 (i_ne x y) rfl
theorem m38_492 : M38 492 ls st H Q = M38 493 ls (.int 1 :: st) H Q := w_con at_492 rfl (by decide)
theorem m38_493 : M38 493 ls st H Q = M38 497 ls st H Q := w_x at_493 rfl
theorem m38_496 : M38 496 ls st H Q = M38 497 ls (.int 0 :: st) H Q := w_con at_496 rfl (by decide)
theorem m38_497 : M38 497 ls (.int z :: st) H Q = Q (some (.int (nar .boolean z))) H := w_iretN at_497 rfl (by simp)
theorem pf0_7 : pfR tables_1 y0.cls y0.name 7 = some ("ResponseTimeGate", 0, .array .int) := by decide +kernel
theorem m0_4a (hH : H.length = b) {vs : List Value} {r : AHeap} (hj : 0 < vs.length) : M0 4 (.val (.ref b) :: [l1, l2, l3]) [] (H ++ (.object "ResponseTimeGate", vs) :: r) Q = M0 12 (.val (.ref b) :: [l1, l2, l3]) [] (H ++ (.object "ResponseTimeGate", vs.set 0 (.ref (b + (r.length + 1)))) :: (r ++ [(.array .int, List.replicate 9 (.int 0))])) Q := w_iarr (n := 9) rfl hH (Nat.zero_le _) (show decode kb0 4 = .ok (.aload_n 0, 1) from by decide +kernel) rfl (show decode kb0 5 = .ok (.bipush 9, 2) from by decide +kernel) (fun _ => rfl) (by decide) (show decode kb0 7 = .ok (.newarray .int, 2) from by decide +kernel) rfl (by decide +kernel) (by decide) (by decide) rfl (show decode kb0 9 = .ok (.putfield 7, 3) from by decide +kernel) pf0_7 hj
theorem pf0_13 : pfR tables_1 y0.cls y0.name 13 = some ("ResponseTimeGate", 1, .array .int) := by decide +kernel
theorem m0_12a (hH : H.length = b) {vs : List Value} {r : AHeap} (hj : 1 < vs.length) : M0 12 (.val (.ref b) :: [l1, l2, l3]) [] (H ++ (.object "ResponseTimeGate", vs) :: r) Q = M0 20 (.val (.ref b) :: [l1, l2, l3]) [] (H ++ (.object "ResponseTimeGate", vs.set 1 (.ref (b + (r.length + 1)))) :: (r ++ [(.array .int, List.replicate 9 (.int 0))])) Q := w_iarr (n := 9) rfl hH (Nat.zero_le _) (show decode kb0 12 = .ok (.aload_n 0, 1) from by decide +kernel) rfl (show decode kb0 13 = .ok (.bipush 9, 2) from by decide +kernel) (fun _ => rfl) (by decide) (show decode kb0 15 = .ok (.newarray .int, 2) from by decide +kernel) rfl (by decide +kernel) (by decide) (by decide) rfl (show decode kb0 17 = .ok (.putfield 13, 3) from by decide +kernel) pf0_13 hj
theorem pf0_16 : pfR tables_1 y0.cls y0.name 16 = some ("ResponseTimeGate", 2, .array .int) := by decide +kernel
theorem m0_20a (hH : H.length = b) {vs : List Value} {r : AHeap} (hj : 2 < vs.length) : M0 20 (.val (.ref b) :: [l1, l2, l3]) [] (H ++ (.object "ResponseTimeGate", vs) :: r) Q = M0 28 (.val (.ref b) :: [l1, l2, l3]) [] (H ++ (.object "ResponseTimeGate", vs.set 2 (.ref (b + (r.length + 1)))) :: (r ++ [(.array .int, List.replicate 9 (.int 0))])) Q := w_iarr (n := 9) rfl hH (Nat.zero_le _) (show decode kb0 20 = .ok (.aload_n 0, 1) from by decide +kernel) rfl (show decode kb0 21 = .ok (.bipush 9, 2) from by decide +kernel) (fun _ => rfl) (by decide) (show decode kb0 23 = .ok (.newarray .int, 2) from by decide +kernel) rfl (by decide +kernel) (by decide) (by decide) rfl (show decode kb0 25 = .ok (.putfield 16, 3) from by decide +kernel) pf0_16 hj
theorem pf0_19 : pfR tables_1 y0.cls y0.name 19 = some ("ResponseTimeGate", 3, .array .int) := by decide +kernel
theorem m0_28a (hH : H.length = b) {vs : List Value} {r : AHeap} (hj : 3 < vs.length) : M0 28 (.val (.ref b) :: [l1, l2, l3]) [] (H ++ (.object "ResponseTimeGate", vs) :: r) Q = M0 36 (.val (.ref b) :: [l1, l2, l3]) [] (H ++ (.object "ResponseTimeGate", vs.set 3 (.ref (b + (r.length + 1)))) :: (r ++ [(.array .int, List.replicate 9 (.int 0))])) Q := w_iarr (n := 9) rfl hH (Nat.zero_le _) (show decode kb0 28 = .ok (.aload_n 0, 1) from by decide +kernel) rfl (show decode kb0 29 = .ok (.bipush 9, 2) from by decide +kernel) (fun _ => rfl) (by decide) (show decode kb0 31 = .ok (.newarray .int, 2) from by decide +kernel) rfl (by decide +kernel) (by decide) (by decide) rfl (show decode kb0 33 = .ok (.putfield 19, 3) from by decide +kernel) pf0_19 hj
theorem pf0_22 : pfR tables_1 y0.cls y0.name 22 = some ("ResponseTimeGate", 4, .array .int) := by decide +kernel
theorem m0_36a (hH : H.length = b) {vs : List Value} {r : AHeap} (hj : 4 < vs.length) : M0 36 (.val (.ref b) :: [l1, l2, l3]) [] (H ++ (.object "ResponseTimeGate", vs) :: r) Q = M0 44 (.val (.ref b) :: [l1, l2, l3]) [] (H ++ (.object "ResponseTimeGate", vs.set 4 (.ref (b + (r.length + 1)))) :: (r ++ [(.array .int, List.replicate 36 (.int 0))])) Q := w_iarr (n := 36) rfl hH (Nat.zero_le _) (show decode kb0 36 = .ok (.aload_n 0, 1) from by decide +kernel) rfl (show decode kb0 37 = .ok (.bipush 36, 2) from by decide +kernel) (fun _ => rfl) (by decide) (show decode kb0 39 = .ok (.newarray .int, 2) from by decide +kernel) rfl (by decide +kernel) (by decide) (by decide) rfl (show decode kb0 41 = .ok (.putfield 22, 3) from by decide +kernel) pf0_22 hj
theorem pf0_25 : pfR tables_1 y0.cls y0.name 25 = some ("ResponseTimeGate", 5, .array .int) := by decide +kernel
theorem m0_44a (hH : H.length = b) {vs : List Value} {r : AHeap} (hj : 5 < vs.length) : M0 44 (.val (.ref b) :: [l1, l2, l3]) [] (H ++ (.object "ResponseTimeGate", vs) :: r) Q = M0 52 (.val (.ref b) :: [l1, l2, l3]) [] (H ++ (.object "ResponseTimeGate", vs.set 5 (.ref (b + (r.length + 1)))) :: (r ++ [(.array .int, List.replicate 36 (.int 0))])) Q := w_iarr (n := 36) rfl hH (Nat.zero_le _) (show decode kb0 44 = .ok (.aload_n 0, 1) from by decide +kernel) rfl (show decode kb0 45 = .ok (.bipush 36, 2) from by decide +kernel) (fun _ => rfl) (by decide) (show decode kb0 47 = .ok (.newarray .int, 2) from by decide +kernel) rfl (by decide +kernel) (by decide) (by decide) rfl (show decode kb0 49 = .ok (.putfield 25, 3) from by decide +kernel) pf0_25 hj
theorem pf0_28 : pfR tables_1 y0.cls y0.name 28 = some ("ResponseTimeGate", 6, .array .int) := by decide +kernel
theorem m0_52a (hH : H.length = b) {vs : List Value} {r : AHeap} (hj : 6 < vs.length) : M0 52 (.val (.ref b) :: [l1, l2, l3]) [] (H ++ (.object "ResponseTimeGate", vs) :: r) Q = M0 60 (.val (.ref b) :: [l1, l2, l3]) [] (H ++ (.object "ResponseTimeGate", vs.set 6 (.ref (b + (r.length + 1)))) :: (r ++ [(.array .int, List.replicate 9 (.int 0))])) Q := w_iarr (n := 9) rfl hH (Nat.zero_le _) (show decode kb0 52 = .ok (.aload_n 0, 1) from by decide +kernel) rfl (show decode kb0 53 = .ok (.bipush 9, 2) from by decide +kernel) (fun _ => rfl) (by decide) (show decode kb0 55 = .ok (.newarray .int, 2) from by decide +kernel) rfl (by decide +kernel) (by decide) (by decide) rfl (show decode kb0 57 = .ok (.putfield 28, 3) from by decide +kernel) pf0_28 hj
theorem pf0_31 : pfR tables_1 y0.cls y0.name 31 = some ("ResponseTimeGate", 7, .array .int) := by decide +kernel
theorem m0_60a (hH : H.length = b) {vs : List Value} {r : AHeap} (hj : 7 < vs.length) : M0 60 (.val (.ref b) :: [l1, l2, l3]) [] (H ++ (.object "ResponseTimeGate", vs) :: r) Q = M0 68 (.val (.ref b) :: [l1, l2, l3]) [] (H ++ (.object "ResponseTimeGate", vs.set 7 (.ref (b + (r.length + 1)))) :: (r ++ [(.array .int, List.replicate 9 (.int 0))])) Q := w_iarr (n := 9) rfl hH (Nat.zero_le _) (show decode kb0 60 = .ok (.aload_n 0, 1) from by decide +kernel) rfl (show decode kb0 61 = .ok (.bipush 9, 2) from by decide +kernel) (fun _ => rfl) (by decide) (show decode kb0 63 = .ok (.newarray .int, 2) from by decide +kernel) rfl (by decide +kernel) (by decide) (by decide) rfl (show decode kb0 65 = .ok (.putfield 31, 3) from by decide +kernel) pf0_31 hj
theorem pf0_34 : pfR tables_1 y0.cls y0.name 34 = some ("ResponseTimeGate", 8, .array .int) := by decide +kernel
theorem m0_68a (hH : H.length = b) {vs : List Value} {r : AHeap} (hj : 8 < vs.length) : M0 68 (.val (.ref b) :: [l1, l2, l3]) [] (H ++ (.object "ResponseTimeGate", vs) :: r) Q = M0 75 (.val (.ref b) :: [l1, l2, l3]) [] (H ++ (.object "ResponseTimeGate", vs.set 8 (.ref (b + (r.length + 1)))) :: (r ++ [(.array .int, List.replicate 4 (.int 0))])) Q := w_iarr (n := 4) rfl hH (Nat.zero_le _) (show decode kb0 68 = .ok (.aload_n 0, 1) from by decide +kernel) rfl (show decode kb0 69 = .ok (.iconst 4, 1) from by decide +kernel) (fun _ => rfl) (by decide) (show decode kb0 70 = .ok (.newarray .int, 2) from by decide +kernel) rfl (by decide +kernel) (by decide) (by decide) rfl (show decode kb0 72 = .ok (.putfield 34, 3) from by decide +kernel) pf0_34 hj
theorem pf0_37 : pfR tables_1 y0.cls y0.name 37 = some ("ResponseTimeGate", 9, .array .int) := by decide +kernel
theorem m0_75a (hH : H.length = b) {vs : List Value} {r : AHeap} (hj : 9 < vs.length) : M0 75 (.val (.ref b) :: [l1, l2, l3]) [] (H ++ (.object "ResponseTimeGate", vs) :: r) Q = M0 82 (.val (.ref b) :: [l1, l2, l3]) [] (H ++ (.object "ResponseTimeGate", vs.set 9 (.ref (b + (r.length + 1)))) :: (r ++ [(.array .int, List.replicate 4 (.int 0))])) Q := w_iarr (n := 4) rfl hH (Nat.zero_le _) (show decode kb0 75 = .ok (.aload_n 0, 1) from by decide +kernel) rfl (show decode kb0 76 = .ok (.iconst 4, 1) from by decide +kernel) (fun _ => rfl) (by decide) (show decode kb0 77 = .ok (.newarray .int, 2) from by decide +kernel) rfl (by decide +kernel) (by decide) (by decide) rfl (show decode kb0 79 = .ok (.putfield 37, 3) from by decide +kernel) pf0_37 hj
theorem pf0_40 : pfR tables_1 y0.cls y0.name 40 = some ("ResponseTimeGate", 10, .array .int) := by decide +kernel
theorem m0_82a (hH : H.length = b) {vs : List Value} {r : AHeap} (hj : 10 < vs.length) : M0 82 (.val (.ref b) :: [l1, l2, l3]) [] (H ++ (.object "ResponseTimeGate", vs) :: r) Q = M0 89 (.val (.ref b) :: [l1, l2, l3]) [] (H ++ (.object "ResponseTimeGate", vs.set 10 (.ref (b + (r.length + 1)))) :: (r ++ [(.array .int, List.replicate 4 (.int 0))])) Q := w_iarr (n := 4) rfl hH (Nat.zero_le _) (show decode kb0 82 = .ok (.aload_n 0, 1) from by decide +kernel) rfl (show decode kb0 83 = .ok (.iconst 4, 1) from by decide +kernel) (fun _ => rfl) (by decide) (show decode kb0 84 = .ok (.newarray .int, 2) from by decide +kernel) rfl (by decide +kernel) (by decide) (by decide) rfl (show decode kb0 86 = .ok (.putfield 40, 3) from by decide +kernel) pf0_40 hj
theorem pf0_43 : pfR tables_1 y0.cls y0.name 43 = some ("ResponseTimeGate", 11, .array .int) := by decide +kernel
theorem m0_89a (hH : H.length = b) {vs : List Value} {r : AHeap} (hj : 11 < vs.length) : M0 89 (.val (.ref b) :: [l1, l2, l3]) [] (H ++ (.object "ResponseTimeGate", vs) :: r) Q = M0 96 (.val (.ref b) :: [l1, l2, l3]) [] (H ++ (.object "ResponseTimeGate", vs.set 11 (.ref (b + (r.length + 1)))) :: (r ++ [(.array .int, List.replicate 4 (.int 0))])) Q := w_iarr (n := 4) rfl hH (Nat.zero_le _) (show decode kb0 89 = .ok (.aload_n 0, 1) from by decide +kernel) rfl (show decode kb0 90 = .ok (.iconst 4, 1) from by decide +kernel) (fun _ => rfl) (by decide) (show decode kb0 91 = .ok (.newarray .int, 2) from by decide +kernel) rfl (by decide +kernel) (by decide) (by decide) rfl (show decode kb0 93 = .ok (.putfield 43, 3) from by decide +kernel) pf0_43 hj
theorem pf0_46 : pfR tables_1 y0.cls y0.name 46 = some ("ResponseTimeGate", 12, .array .int) := by decide +kernel
theorem m0_96a (hH : H.length = b) {vs : List Value} {r : AHeap} (hj : 12 < vs.length) : M0 96 (.val (.ref b) :: [l1, l2, l3]) [] (H ++ (.object "ResponseTimeGate", vs) :: r) Q = M0 104 (.val (.ref b) :: [l1, l2, l3]) [] (H ++ (.object "ResponseTimeGate", vs.set 12 (.ref (b + (r.length + 1)))) :: (r ++ [(.array .int, List.replicate 9 (.int 0))])) Q := w_iarr (n := 9) rfl hH (Nat.zero_le _) (show decode kb0 96 = .ok (.aload_n 0, 1) from by decide +kernel) rfl (show decode kb0 97 = .ok (.bipush 9, 2) from by decide +kernel) (fun _ => rfl) (by decide) (show decode kb0 99 = .ok (.newarray .int, 2) from by decide +kernel) rfl (by decide +kernel) (by decide) (by decide) rfl (show decode kb0 101 = .ok (.putfield 46, 3) from by decide +kernel) pf0_46 hj
theorem pf0_49 : pfR tables_1 y0.cls y0.name 49 = some ("ResponseTimeGate", 13, .array .int) := by decide +kernel
theorem m0_104a (hH : H.length = b) {vs : List Value} {r : AHeap} (hj : 13 < vs.length) : M0 104 (.val (.ref b) :: [l1, l2, l3]) [] (H ++ (.object "ResponseTimeGate", vs) :: r) Q = M0 112 (.val (.ref b) :: [l1, l2, l3]) [] (H ++ (.object "ResponseTimeGate", vs.set 13 (.ref (b + (r.length + 1)))) :: (r ++ [(.array .int, List.replicate 9 (.int 0))])) Q := w_iarr (n := 9) rfl hH (Nat.zero_le _) (show decode kb0 104 = .ok (.aload_n 0, 1) from by decide +kernel) rfl (show decode kb0 105 = .ok (.bipush 9, 2) from by decide +kernel) (fun _ => rfl) (by decide) (show decode kb0 107 = .ok (.newarray .int, 2) from by decide +kernel) rfl (by decide +kernel) (by decide) (by decide) rfl (show decode kb0 109 = .ok (.putfield 49, 3) from by decide +kernel) pf0_49 hj
theorem pf0_52 : pfR tables_1 y0.cls y0.name 52 = some ("ResponseTimeGate", 14, .array .boolean) := by decide +kernel
theorem m0_112a (hH : H.length = b) {vs : List Value} {r : AHeap} (hj : 14 < vs.length) : M0 112 (.val (.ref b) :: [l1, l2, l3]) [] (H ++ (.object "ResponseTimeGate", vs) :: r) Q = M0 120 (.val (.ref b) :: [l1, l2, l3]) [] (H ++ (.object "ResponseTimeGate", vs.set 14 (.ref (b + (r.length + 1)))) :: (r ++ [(.array .boolean, List.replicate 9 (.int 0))])) Q := w_iarr (n := 9) rfl hH (Nat.zero_le _) (show decode kb0 112 = .ok (.aload_n 0, 1) from by decide +kernel) rfl (show decode kb0 113 = .ok (.bipush 9, 2) from by decide +kernel) (fun _ => rfl) (by decide) (show decode kb0 115 = .ok (.newarray .boolean, 2) from by decide +kernel) rfl (by decide +kernel) (by decide) (by decide) rfl (show decode kb0 117 = .ok (.putfield 52, 3) from by decide +kernel) pf0_52 hj
theorem pf0_56 : pfR tables_1 y0.cls y0.name 56 = some ("ResponseTimeGate", 15, .array .int) := by decide +kernel
theorem m0_120a (hH : H.length = b) {vs : List Value} {r : AHeap} (hj : 15 < vs.length) : M0 120 (.val (.ref b) :: [l1, l2, l3]) [] (H ++ (.object "ResponseTimeGate", vs) :: r) Q = M0 128 (.val (.ref b) :: [l1, l2, l3]) [] (H ++ (.object "ResponseTimeGate", vs.set 15 (.ref (b + (r.length + 1)))) :: (r ++ [(.array .int, List.replicate 9 (.int 0))])) Q := w_iarr (n := 9) rfl hH (Nat.zero_le _) (show decode kb0 120 = .ok (.aload_n 0, 1) from by decide +kernel) rfl (show decode kb0 121 = .ok (.bipush 9, 2) from by decide +kernel) (fun _ => rfl) (by decide) (show decode kb0 123 = .ok (.newarray .int, 2) from by decide +kernel) rfl (by decide +kernel) (by decide) (by decide) rfl (show decode kb0 125 = .ok (.putfield 56, 3) from by decide +kernel) pf0_56 hj
theorem pf0_59 : pfR tables_1 y0.cls y0.name 59 = some ("ResponseTimeGate", 16, .array .int) := by decide +kernel
theorem m0_128a (hH : H.length = b) {vs : List Value} {r : AHeap} (hj : 16 < vs.length) : M0 128 (.val (.ref b) :: [l1, l2, l3]) [] (H ++ (.object "ResponseTimeGate", vs) :: r) Q = M0 136 (.val (.ref b) :: [l1, l2, l3]) [] (H ++ (.object "ResponseTimeGate", vs.set 16 (.ref (b + (r.length + 1)))) :: (r ++ [(.array .int, List.replicate 9 (.int 0))])) Q := w_iarr (n := 9) rfl hH (Nat.zero_le _) (show decode kb0 128 = .ok (.aload_n 0, 1) from by decide +kernel) rfl (show decode kb0 129 = .ok (.bipush 9, 2) from by decide +kernel) (fun _ => rfl) (by decide) (show decode kb0 131 = .ok (.newarray .int, 2) from by decide +kernel) rfl (by decide +kernel) (by decide) (by decide) rfl (show decode kb0 133 = .ok (.putfield 59, 3) from by decide +kernel) pf0_59 hj
theorem pf0_62 : pfR tables_1 y0.cls y0.name 62 = some ("ResponseTimeGate", 17, .array .int) := by decide +kernel
theorem m0_136a (hH : H.length = b) {vs : List Value} {r : AHeap} (hj : 17 < vs.length) : M0 136 (.val (.ref b) :: [l1, l2, l3]) [] (H ++ (.object "ResponseTimeGate", vs) :: r) Q = M0 144 (.val (.ref b) :: [l1, l2, l3]) [] (H ++ (.object "ResponseTimeGate", vs.set 17 (.ref (b + (r.length + 1)))) :: (r ++ [(.array .int, List.replicate 9 (.int 0))])) Q := w_iarr (n := 9) rfl hH (Nat.zero_le _) (show decode kb0 136 = .ok (.aload_n 0, 1) from by decide +kernel) rfl (show decode kb0 137 = .ok (.bipush 9, 2) from by decide +kernel) (fun _ => rfl) (by decide) (show decode kb0 139 = .ok (.newarray .int, 2) from by decide +kernel) rfl (by decide +kernel) (by decide) (by decide) rfl (show decode kb0 141 = .ok (.putfield 62, 3) from by decide +kernel) pf0_62 hj
theorem pf0_65 : pfR tables_1 y0.cls y0.name 65 = some ("ResponseTimeGate", 18, .array .int) := by decide +kernel
theorem m0_144a (hH : H.length = b) {vs : List Value} {r : AHeap} (hj : 18 < vs.length) : M0 144 (.val (.ref b) :: [l1, l2, l3]) [] (H ++ (.object "ResponseTimeGate", vs) :: r) Q = M0 152 (.val (.ref b) :: [l1, l2, l3]) [] (H ++ (.object "ResponseTimeGate", vs.set 18 (.ref (b + (r.length + 1)))) :: (r ++ [(.array .int, List.replicate 9 (.int 0))])) Q := w_iarr (n := 9) rfl hH (Nat.zero_le _) (show decode kb0 144 = .ok (.aload_n 0, 1) from by decide +kernel) rfl (show decode kb0 145 = .ok (.bipush 9, 2) from by decide +kernel) (fun _ => rfl) (by decide) (show decode kb0 147 = .ok (.newarray .int, 2) from by decide +kernel) rfl (by decide +kernel) (by decide) (by decide) rfl (show decode kb0 149 = .ok (.putfield 65, 3) from by decide +kernel) pf0_65 hj
theorem pf0_68 : pfR tables_1 y0.cls y0.name 68 = some ("ResponseTimeGate", 19, .array .int) := by decide +kernel
theorem m0_152a (hH : H.length = b) {vs : List Value} {r : AHeap} (hj : 19 < vs.length) : M0 152 (.val (.ref b) :: [l1, l2, l3]) [] (H ++ (.object "ResponseTimeGate", vs) :: r) Q = M0 160 (.val (.ref b) :: [l1, l2, l3]) [] (H ++ (.object "ResponseTimeGate", vs.set 19 (.ref (b + (r.length + 1)))) :: (r ++ [(.array .int, List.replicate 9 (.int 0))])) Q := w_iarr (n := 9) rfl hH (Nat.zero_le _) (show decode kb0 152 = .ok (.aload_n 0, 1) from by decide +kernel) rfl (show decode kb0 153 = .ok (.bipush 9, 2) from by decide +kernel) (fun _ => rfl) (by decide) (show decode kb0 155 = .ok (.newarray .int, 2) from by decide +kernel) rfl (by decide +kernel) (by decide) (by decide) rfl (show decode kb0 157 = .ok (.putfield 68, 3) from by decide +kernel) pf0_68 hj
def A0 : Nat → List Int32
  | 0 => List.replicate 9 0
  | 1 => List.replicate 9 0
  | 2 => List.replicate 9 0
  | 3 => List.replicate 9 0
  | 4 => List.replicate 36 0
  | 5 => List.replicate 36 0
  | 6 => List.replicate 9 0
  | 7 => List.replicate 9 0
  | 8 => List.replicate 4 0
  | 9 => List.replicate 4 0
  | 10 => List.replicate 4 0
  | 11 => List.replicate 4 0
  | 12 => List.replicate 9 0
  | 13 => List.replicate 9 0
  | 14 => List.replicate 9 0
  | 15 => List.replicate 9 0
  | 16 => List.replicate 9 0
  | 17 => List.replicate 9 0
  | 18 => List.replicate 9 0
  | 19 => List.replicate 9 0
  | _ => []
theorem A0l_0 : (A0 0).length = 9 := List.length_replicate
theorem A0g_0 (j : Int32) : getA (A0 0) j = 0 := getA_rep _ _
theorem A0l_1 : (A0 1).length = 9 := List.length_replicate
theorem A0g_1 (j : Int32) : getA (A0 1) j = 0 := getA_rep _ _
theorem A0l_2 : (A0 2).length = 9 := List.length_replicate
theorem A0g_2 (j : Int32) : getA (A0 2) j = 0 := getA_rep _ _
theorem A0l_3 : (A0 3).length = 9 := List.length_replicate
theorem A0g_3 (j : Int32) : getA (A0 3) j = 0 := getA_rep _ _
theorem A0l_4 : (A0 4).length = 36 := List.length_replicate
theorem A0g_4 (j : Int32) : getA (A0 4) j = 0 := getA_rep _ _
theorem A0l_5 : (A0 5).length = 36 := List.length_replicate
theorem A0g_5 (j : Int32) : getA (A0 5) j = 0 := getA_rep _ _
theorem A0l_6 : (A0 6).length = 9 := List.length_replicate
theorem A0g_6 (j : Int32) : getA (A0 6) j = 0 := getA_rep _ _
theorem A0l_7 : (A0 7).length = 9 := List.length_replicate
theorem A0g_7 (j : Int32) : getA (A0 7) j = 0 := getA_rep _ _
theorem A0l_8 : (A0 8).length = 4 := List.length_replicate
theorem A0g_8 (j : Int32) : getA (A0 8) j = 0 := getA_rep _ _
theorem A0l_9 : (A0 9).length = 4 := List.length_replicate
theorem A0g_9 (j : Int32) : getA (A0 9) j = 0 := getA_rep _ _
theorem A0l_10 : (A0 10).length = 4 := List.length_replicate
theorem A0g_10 (j : Int32) : getA (A0 10) j = 0 := getA_rep _ _
theorem A0l_11 : (A0 11).length = 4 := List.length_replicate
theorem A0g_11 (j : Int32) : getA (A0 11) j = 0 := getA_rep _ _
theorem A0l_12 : (A0 12).length = 9 := List.length_replicate
theorem A0g_12 (j : Int32) : getA (A0 12) j = 0 := getA_rep _ _
theorem A0l_13 : (A0 13).length = 9 := List.length_replicate
theorem A0g_13 (j : Int32) : getA (A0 13) j = 0 := getA_rep _ _
theorem A0l_14 : (A0 14).length = 9 := List.length_replicate
theorem A0g_14 (j : Int32) : getA (A0 14) j = 0 := getA_rep _ _
theorem A0l_15 : (A0 15).length = 9 := List.length_replicate
theorem A0g_15 (j : Int32) : getA (A0 15) j = 0 := getA_rep _ _
theorem A0l_16 : (A0 16).length = 9 := List.length_replicate
theorem A0g_16 (j : Int32) : getA (A0 16) j = 0 := getA_rep _ _
theorem A0l_17 : (A0 17).length = 9 := List.length_replicate
theorem A0g_17 (j : Int32) : getA (A0 17) j = 0 := getA_rep _ _
theorem A0l_18 : (A0 18).length = 9 := List.length_replicate
theorem A0g_18 (j : Int32) : getA (A0 18) j = 0 := getA_rep _ _
theorem A0l_19 : (A0 19).length = 9 := List.length_replicate
theorem A0g_19 (j : Int32) : getA (A0 19) j = 0 := getA_rep _ _
theorem own_ctor0 (hb : pre.length = b) : M0 0 (.val (.ref b) :: [l1, l2, l3]) [] (pre ++ [(.object "ResponseTimeGate", D0)]) Q = M0 160 (.val (.ref b) :: [l1, l2, l3]) [] (put b pre (fun _ => 0) A0 []) Q := by
  rw [m0_0, m0_1, m0_4a hb (by (repeat rw [List.length_set]); exact Nat.le_of_ble_eq_true rfl), m0_12a hb (by (repeat rw [List.length_set]); exact Nat.le_of_ble_eq_true rfl), m0_20a hb (by (repeat rw [List.length_set]); exact Nat.le_of_ble_eq_true rfl), m0_28a hb (by (repeat rw [List.length_set]); exact Nat.le_of_ble_eq_true rfl), m0_36a hb (by (repeat rw [List.length_set]); exact Nat.le_of_ble_eq_true rfl), m0_44a hb (by (repeat rw [List.length_set]); exact Nat.le_of_ble_eq_true rfl), m0_52a hb (by (repeat rw [List.length_set]); exact Nat.le_of_ble_eq_true rfl), m0_60a hb (by (repeat rw [List.length_set]); exact Nat.le_of_ble_eq_true rfl), m0_68a hb (by (repeat rw [List.length_set]); exact Nat.le_of_ble_eq_true rfl), m0_75a hb (by (repeat rw [List.length_set]); exact Nat.le_of_ble_eq_true rfl), m0_82a hb (by (repeat rw [List.length_set]); exact Nat.le_of_ble_eq_true rfl), m0_89a hb (by (repeat rw [List.length_set]); exact Nat.le_of_ble_eq_true rfl), m0_96a hb (by (repeat rw [List.length_set]); exact Nat.le_of_ble_eq_true rfl), m0_104a hb (by (repeat rw [List.length_set]); exact Nat.le_of_ble_eq_true rfl), m0_112a hb (by (repeat rw [List.length_set]); exact Nat.le_of_ble_eq_true rfl), m0_120a hb (by (repeat rw [List.length_set]); exact Nat.le_of_ble_eq_true rfl), m0_128a hb (by (repeat rw [List.length_set]); exact Nat.le_of_ble_eq_true rfl), m0_136a hb (by (repeat rw [List.length_set]); exact Nat.le_of_ble_eq_true rfl), m0_144a hb (by (repeat rw [List.length_set]); exact Nat.le_of_ble_eq_true rfl), m0_152a hb (by (repeat rw [List.length_set]); exact Nat.le_of_ble_eq_true rfl)]
  simp only [put, pad_eq hb, objv, D0, A0, List.map_replicate, List.set_cons_succ, List.set_cons_zero, List.nil_append, List.cons_append, List.length_cons, List.length_nil, List.append_nil]
end Rules
/- methods: 0=ResponseTimeGate.<init>(I)V; 1=ResponseTimeGate.resetSim()V; 2=ResponseTimeGate.beginTask(IIII)I; 3=ResponseTimeGate.priorityTaken(I)Z; 4=ResponseTimeGate.addSection(III)I; 5=ResponseTimeGate.overlapsStaged(II)Z; 6=ResponseTimeGate.commitTask()I; 7=ResponseTimeGate.lcmWith(II)I; 8=ResponseTimeGate.gcd(II)I; 9=ResponseTimeGate.placeStaged(I)V; 10=ResponseTimeGate.analyze(I)I; 11=ResponseTimeGate.computeCeilings(I)V; 12=ResponseTimeGate.blockingOf(II)I; 13=ResponseTimeGate.responseOf(III)I; 14=ResponseTimeGate.interference(III)I; 15=ResponseTimeGate.adoptResults(I)V; 16=ResponseTimeGate.failedTask()I; 17=ResponseTimeGate.taskCount()I; 18=ResponseTimeGate.bound(I)I; 19=ResponseTimeGate.admitted(I)Z; 20=ResponseTimeGate.blocking(I)I; 21=ResponseTimeGate.ceiling(I)I; 22=ResponseTimeGate.hyperperiod()I; 23=ResponseTimeGate.run(I)I; 24=ResponseTimeGate.tick()V; 25=ResponseTimeGate.releaseJobs()V; 26=ResponseTimeGate.pickRunning()I; 27=ResponseTimeGate.activePriority(I)I; 28=ResponseTimeGate.executeUnit(I)V; 29=ResponseTimeGate.takeResourceIfStart(I)V; 30=ResponseTimeGate.completeJob(I)V; 31=ResponseTimeGate.checkMisses()V; 32=ResponseTimeGate.time()I; 33=ResponseTimeGate.misses()I; 34=ResponseTimeGate.holder(I)I; 35=ResponseTimeGate.jobsDone(I)I; 36=ResponseTimeGate.maxResponse(I)I; 37=ResponseTimeGateL3.u(II)I; 38=ResponseTimeGateL3.law(IIIIII)Z -/
def own_k1_0 := And.intro (And.intro (And.intro @m1_0 @m1_1) (And.intro @m1_2 @m1_5)) (And.intro (And.intro @m1_6 @m1_7) (And.intro @m1_10 @m1_11u))
def own_k1_1 := And.intro (And.intro (And.intro (And.intro @m1_13 @m1_15) (And.intro @m1_18 @m1_19)) (And.intro (And.intro @m1_22 @m1_23) (And.intro @m1_24 @m1_25))) (And.intro (And.intro (And.intro @m1_26 @m1_29) (And.intro @m1_30 @m1_31)) (And.intro (And.intro @m1_32 @m1_33) (And.intro @m1_36 @m1_37)))
def own_k1_2 := And.intro (And.intro (And.intro (And.intro @m1_38 @m1_39) (And.intro @m1_40 @m1_43)) (And.intro (And.intro @m1_44 @m1_45) (And.intro @m1_46 @m1_47))) (And.intro (And.intro (And.intro @m1_50 @m1_51) (And.intro @m1_52 @m1_53)) (And.intro (And.intro @m1_54 @m1_57) (And.intro @m1_58 @m1_59)))
def own_k1_3 := And.intro @m1_60 (And.intro @m1_63 @m1_66)
def own_k24_0 := And.intro (And.intro (And.intro (And.intro @m24_0 @m24_1) (And.intro @m24_4 @m24_5)) (And.intro (And.intro @m24_8u @m24_9) (And.intro @m24_10 @m24_13))) (And.intro (And.intro (And.intro @m24_14 @m24_15) (And.intro @m24_18 @m24_19)) (And.intro (And.intro @m24_20 @m24_23) (And.intro @m24_24 @m24_25)))
def own_k24_1 := And.intro @m24_28 (And.intro @m24_29 @m24_32)
def own_k25_0 := And.intro (And.intro (And.intro (And.intro @m25_3 @m25_4) (And.intro @m25_7 @m25_10)) (And.intro (And.intro @m25_11 @m25_14) (And.intro @m25_15 @m25_16u))) (And.intro (And.intro (And.intro @m25_16i @m25_16r) (And.intro @m25_17 @m25_18)) (And.intro (And.intro @m25_21 @m25_22) (And.intro @m25_25 @m25_26)))
def own_k25_1 := And.intro (And.intro (And.intro (And.intro @m25_27 @m25_30) (And.intro @m25_31 @m25_34)) (And.intro (And.intro @m25_35 @m25_36) (And.intro @m25_37 @m25_38))) (And.intro (And.intro (And.intro @m25_41 @m25_42) (And.intro @m25_43 @m25_46)) (And.intro (And.intro @m25_47 @m25_48) (And.intro @m25_51 @m25_52)))
def own_k25_2 := And.intro (And.intro (And.intro @m25_53 @m25_54) (And.intro @m25_55 @m25_58)) (And.intro (And.intro @m25_59 @m25_60) (And.intro @m25_61 (And.intro @m25_64 @m25_67)))
def own_k26_0 := And.intro (And.intro (And.intro @m26_0 @m26_1u) (And.intro @m26_2 @m26_3u)) (And.intro (And.intro @m26_4 @m26_5u) (And.intro @m26_6 @m26_7u))
def own_k26_1 := And.intro (And.intro (And.intro (And.intro @m26_11 @m26_12) (And.intro @m26_15 @m26_18)) (And.intro (And.intro @m26_19 @m26_22) (And.intro @m26_24 @m26_25))) (And.intro (And.intro (And.intro @m26_28 @m26_31) (And.intro @m26_32 @m26_34)) (And.intro (And.intro @m26_37u @m26_37i) (And.intro @m26_37r @m26_39)))
def own_k26_2 := And.intro (And.intro (And.intro (And.intro @m26_40 @m26_43) (And.intro @m26_45 @m26_46)) (And.intro (And.intro @m26_49 @m26_50) (And.intro @m26_53 @m26_54u))) (And.intro (And.intro (And.intro @m26_54i @m26_54r) (And.intro @m26_56 @m26_57)) (And.intro (And.intro @m26_60 @m26_62) (And.intro @m26_63 @m26_66)))
def own_k26_3 := And.intro (And.intro (And.intro (And.intro @m26_68 @m26_69) (And.intro @m26_72 @m26_74)) (And.intro (And.intro @m26_77 @m26_78) (And.intro @m26_81 @m26_83i))) (And.intro (And.intro (And.intro @m26_84 @m26_86i) (And.intro @m26_87 @m26_89i)) (And.intro (And.intro @m26_90 @m26_93) (And.intro @m26_96 @m26_97)))
def own_k27_0 := And.intro (And.intro (And.intro (And.intro @m27_0 @m27_1) (And.intro @m27_4 @m27_5)) (And.intro (And.intro @m27_6u @m27_7) (And.intro @m27_8 @m27_11))) (And.intro (And.intro (And.intro @m27_12 @m27_13) (And.intro @m27_16 @m27_17)) (And.intro (And.intro @m27_20 @m27_21) (And.intro @m27_22 @m27_23)))
def own_k27_1 := And.intro (And.intro @m27_24 @m27_27) (And.intro @m27_28 @m27_29)
def own_k28_0 := And.intro (And.intro (And.intro (And.intro @m28_0 @m28_1) (And.intro @m28_2 @m28_5)) (And.intro (And.intro @m28_6 @m28_9) (And.intro @m28_10 @m28_11))) (And.intro (And.intro (And.intro @m28_14 @m28_15) (And.intro @m28_16 @m28_17)) (And.intro (And.intro @m28_18 @m28_19) (And.intro @m28_20 @m28_23)))
def own_k28_1 := And.intro (And.intro (And.intro (And.intro @m28_24 @m28_25u) (And.intro @m28_26 @m28_27)) (And.intro (And.intro @m28_30 @m28_31) (And.intro @m28_32 @m28_35))) (And.intro (And.intro (And.intro @m28_36 @m28_39) (And.intro @m28_40 @m28_41)) (And.intro (And.intro @m28_42 @m28_45) (And.intro @m28_46 @m28_47)))
def own_k28_2 := And.intro (And.intro (And.intro (And.intro @m28_48 @m28_49) (And.intro @m28_50 @m28_51)) (And.intro (And.intro @m28_52 @m28_55) (And.intro @m28_56 @m28_57))) (And.intro (And.intro (And.intro @m28_58 @m28_59) (And.intro @m28_60 @m28_61)) (And.intro (And.intro @m28_62 @m28_65) (And.intro @m28_66 @m28_69)))
def own_k28_3 := And.intro (And.intro (And.intro @m28_70 (And.intro @m28_71 @m28_72)) (And.intro (And.intro @m28_73 @m28_76) (And.intro @m28_77 @m28_78))) (And.intro (And.intro (And.intro @m28_79 @m28_82) (And.intro @m28_83 @m28_84)) (And.intro (And.intro @m28_87 @m28_88) (And.intro @m28_89 @m28_92)))
def own_k29_0 := And.intro (And.intro (And.intro @m29_0 @m29_1) (And.intro @m29_4 @m29_5)) (And.intro (And.intro @m29_6 @m29_9) (And.intro @m29_10 @m29_11u))
def own_k29_1 := And.intro (And.intro (And.intro (And.intro @m29_13 @m29_14) (And.intro @m29_17 @m29_18)) (And.intro (And.intro @m29_21 @m29_22) (And.intro @m29_23 @m29_24))) (And.intro (And.intro (And.intro @m29_25 @m29_26) (And.intro @m29_27 @m29_30)) (And.intro (And.intro @m29_31 @m29_34) (And.intro @m29_35 @m29_36)))
def own_k29_2 := And.intro (And.intro (And.intro (And.intro @m29_37 @m29_38) (And.intro @m29_39 @m29_40)) (And.intro (And.intro @m29_41 @m29_44) (And.intro @m29_45 @m29_46))) (And.intro (And.intro (And.intro @m29_49 @m29_50) (And.intro @m29_53 @m29_54)) (And.intro (And.intro @m29_55 @m29_56) (And.intro @m29_57 @m29_60)))
def own_k30_0 := And.intro (And.intro (And.intro (And.intro @m30_0 @m30_1) (And.intro @m30_4 @m30_5)) (And.intro (And.intro @m30_6 @m30_7) (And.intro @m30_10 @m30_11))) (And.intro (And.intro (And.intro @m30_12 @m30_13u) (And.intro @m30_14 @m30_15)) (And.intro (And.intro @m30_18 @m30_19) (And.intro @m30_20 @m30_23)))
def own_k30_1 := And.intro (And.intro (And.intro (And.intro @m30_24 @m30_25) (And.intro @m30_26 @m30_27)) (And.intro (And.intro @m30_28 @m30_29) (And.intro @m30_30 @m30_33))) (And.intro (And.intro (And.intro @m30_34 @m30_35) (And.intro @m30_38 @m30_39)) (And.intro (And.intro @m30_42 @m30_43) (And.intro @m30_44 @m30_45)))
def own_k30_2 := And.intro (And.intro (And.intro @m30_46 @m30_49) (And.intro @m30_50 (And.intro @m30_51 @m30_52))) (And.intro (And.intro @m30_53 @m30_56) (And.intro @m30_57 (And.intro @m30_58 @m30_59)))
def own_k31_0 := And.intro (And.intro (And.intro (And.intro @m31_3 @m31_4) (And.intro @m31_7 @m31_10)) (And.intro (And.intro @m31_11 @m31_14) (And.intro @m31_15 @m31_16))) (And.intro (And.intro (And.intro @m31_19 @m31_20) (And.intro @m31_23 @m31_24)) (And.intro (And.intro @m31_25 @m31_26) (And.intro @m31_29 @m31_30)))
def own_k31_1 := And.intro (And.intro (And.intro (And.intro @m31_31 @m31_32) (And.intro @m31_33 @m31_36)) (And.intro (And.intro @m31_39 @m31_40) (And.intro @m31_41 @m31_44))) (And.intro (And.intro (And.intro @m31_45 @m31_46) (And.intro @m31_49 @m31_50)) (And.intro (And.intro @m31_53 @m31_54) (And.intro @m31_55 @m31_56)))
def own_k31_2 := And.intro (And.intro @m31_57 (And.intro @m31_60 @m31_61)) (And.intro (And.intro @m31_62 @m31_63) (And.intro @m31_66 @m31_69))
def own_k23_0 := And.intro (And.intro (And.intro @m23_0 (And.intro @m23_1u @m23_2)) (And.intro (And.intro @m23_3 @m23_6) (And.intro @m23_7i @m23_8))) (And.intro (And.intro (And.intro @m23_9 @m23_12) (And.intro @m23_15 @m23_18i)) (And.intro (And.intro @m23_19 @m23_20u) (And.intro @m23_21 @m23_22i)))
def own_k23_1 := And.intro (And.intro (And.intro @m23_24 (And.intro @m23_25 @m23_28)) (And.intro (And.intro @m23_29 @m23_32) (And.intro @m23_33 @m23_36))) (And.intro (And.intro @m23_39 (And.intro @m23_42 @m23_43)) (And.intro (And.intro @m23_46 @m23_49) (And.intro @m23_52 @m23_53)))
def own_k37_0 := And.intro (And.intro (And.intro @m37_0 (And.intro @m37_1 @m37_2)) (And.intro @m37_3u (And.intro @m37_4 @m37_5))) (And.intro (And.intro @m37_8 (And.intro @m37_9 @m37_10)) (And.intro @m37_11 (And.intro @m37_14 @m37_15)))
def own_k0_0 := And.intro (And.intro (And.intro (And.intro @m0_0 @m0_1) (And.intro @m0_4 @m0_5)) (And.intro (And.intro @m0_12 @m0_13) (And.intro @m0_20 @m0_21))) (And.intro (And.intro (And.intro @m0_28 @m0_29) (And.intro @m0_36 @m0_37)) (And.intro (And.intro @m0_44 @m0_45) (And.intro @m0_52 @m0_53)))
def own_k0_1 := And.intro (And.intro (And.intro (And.intro @m0_60 @m0_61) (And.intro @m0_68 @m0_69)) (And.intro (And.intro @m0_75 @m0_76) (And.intro @m0_82 @m0_83))) (And.intro (And.intro (And.intro @m0_89 @m0_90) (And.intro @m0_96 @m0_97)) (And.intro (And.intro @m0_104 @m0_105) (And.intro @m0_112 @m0_113)))
def own_k0_2 := And.intro (And.intro (And.intro (And.intro @m0_120 @m0_121) (And.intro @m0_128 @m0_129)) (And.intro (And.intro @m0_136 @m0_137) (And.intro @m0_144 @m0_145))) (And.intro (And.intro (And.intro @m0_152 @m0_153) (And.intro @m0_160 @m0_161u)) (And.intro (And.intro @m0_162 @m0_163) (And.intro @m0_164 @m0_167)))
def own_k0_3 := And.intro (And.intro (And.intro (And.intro @m0_168i @m0_169) (And.intro @m0_170 @m0_172)) (And.intro (And.intro @m0_175 @m0_177i) (And.intro @m0_178 @m0_179))) (And.intro (And.intro (And.intro @m0_180 @m0_183) (And.intro @m0_184 @m0_185)) (And.intro (And.intro @m0_188 @m0_189) (And.intro @m0_190 @m0_193)))
def own_k0_4 := And.intro (And.intro @m0_194 (And.intro @m0_195 @m0_198)) (And.intro (And.intro @m0_199 @m0_200) (And.intro @m0_203 @m0_204u))
def own_k0_5 := And.intro (And.intro (And.intro @m0_206 (And.intro @m0_207 @m0_210)) (And.intro @m0_211 (And.intro @m0_214 @m0_215))) (And.intro (And.intro @m0_216 (And.intro @m0_217 @m0_220)) (And.intro @m0_223 (And.intro @m0_224 @m0_227)))
def own_k2_0 := And.intro (And.intro (And.intro (And.intro @m2_0 @m2_1) (And.intro @m2_4 @m2_5)) (And.intro (And.intro @m2_8 @m2_11) (And.intro @m2_12 @m2_13))) (And.intro (And.intro (And.intro @m2_14 @m2_15) (And.intro @m2_18 @m2_19)) (And.intro (And.intro @m2_22 @m2_25) (And.intro @m2_27 @m2_28)))
def own_k2_1 := And.intro (And.intro (And.intro (And.intro @m2_29 @m2_30) (And.intro @m2_33 @m2_34)) (And.intro (And.intro @m2_35 @m2_38) (And.intro @m2_40 @m2_41))) (And.intro (And.intro (And.intro @m2_42 @m2_43) (And.intro @m2_46 @m2_47)) (And.intro (And.intro @m2_48 @m2_51) (And.intro @m2_53 @m2_54)))
def own_k2_2 := And.intro (And.intro (And.intro (And.intro @m2_56 @m2_57) (And.intro @m2_60 @m2_62)) (And.intro (And.intro @m2_64 @m2_67) (And.intro @m2_69 @m2_70))) (And.intro (And.intro (And.intro @m2_71 @m2_73) (And.intro @m2_76 @m2_79)) (And.intro (And.intro @m2_81 @m2_82) (And.intro @m2_83 @m2_84)))
def own_k2_3 := And.intro (And.intro (And.intro @m2_87 (And.intro @m2_88 @m2_89)) (And.intro (And.intro @m2_92 @m2_93) (And.intro @m2_94 @m2_97))) (And.intro (And.intro @m2_98 (And.intro @m2_99 @m2_102)) (And.intro (And.intro @m2_103 @m2_105) (And.intro @m2_108 @m2_109u)))
def own_k2_4 := And.intro (And.intro (And.intro (And.intro @m2_113 @m2_114) (And.intro @m2_117 @m2_118)) (And.intro (And.intro @m2_121 @m2_123) (And.intro @m2_124 @m2_125))) (And.intro (And.intro (And.intro @m2_126 @m2_129) (And.intro @m2_131 @m2_132)) (And.intro (And.intro @m2_133 @m2_136) (And.intro @m2_139 @m2_140)))
def own_k3_0 := And.intro (And.intro (And.intro @m3_3 (And.intro @m3_4 @m3_7)) (And.intro (And.intro @m3_10 @m3_11) (And.intro @m3_14 @m3_15))) (And.intro (And.intro (And.intro @m3_16 @m3_17) (And.intro @m3_20 @m3_21)) (And.intro (And.intro @m3_22 @m3_25) (And.intro @m3_28 @m3_29)))
def own_k4_0 := And.intro (And.intro (And.intro (And.intro @m4_0 @m4_1) (And.intro @m4_4 @m4_7)) (And.intro (And.intro @m4_9 @m4_10) (And.intro @m4_11 @m4_14))) (And.intro (And.intro (And.intro @m4_15 @m4_16) (And.intro @m4_19 @m4_21)) (And.intro (And.intro @m4_22 @m4_23) (And.intro @m4_26 @m4_27)))
def own_k4_1 := And.intro (And.intro (And.intro (And.intro @m4_28 @m4_31) (And.intro @m4_33 @m4_34)) (And.intro (And.intro @m4_35 @m4_36) (And.intro @m4_39 @m4_42))) (And.intro (And.intro (And.intro @m4_43 @m4_44) (And.intro @m4_47 @m4_48)) (And.intro (And.intro @m4_49 @m4_52) (And.intro @m4_54 @m4_55)))
def own_k4_2 := And.intro (And.intro (And.intro (And.intro @m4_56 @m4_59) (And.intro @m4_60 @m4_61)) (And.intro (And.intro @m4_64 @m4_66) (And.intro @m4_67 @m4_68))) (And.intro (And.intro (And.intro @m4_69 @m4_70) (And.intro @m4_73 @m4_76)) (And.intro (And.intro @m4_78 @m4_79) (And.intro @m4_80 @m4_83)))
def own_k4_3 := And.intro (And.intro (And.intro @m4_84 @m4_85) (And.intro @m4_86 @m4_87)) (And.intro (And.intro @m4_90 @m4_91) (And.intro @m4_92 (And.intro @m4_93 @m4_94)))
def own_k5_0 := And.intro (And.intro (And.intro (And.intro @m5_3 @m5_4) (And.intro @m5_7 @m5_8)) (And.intro (And.intro @m5_11 @m5_12) (And.intro @m5_13u @m5_13i))) (And.intro (And.intro (And.intro @m5_13r @m5_15) (And.intro @m5_17 @m5_20)) (And.intro (And.intro @m5_23 @m5_24) (And.intro @m5_27 @m5_28)))
def own_k5_1 := And.intro (And.intro (And.intro (And.intro @m5_29u @m5_29i) (And.intro @m5_29r @m5_31)) (And.intro (And.intro @m5_32 @m5_34) (And.intro @m5_36 @m5_37))) (And.intro (And.intro (And.intro @m5_40 @m5_42) (And.intro @m5_43 @m5_44)) (And.intro (And.intro @m5_45 @m5_48) (And.intro @m5_49 @m5_50)))
def own_k5_2 := And.intro @m5_53 (And.intro @m5_56 @m5_57)
def own_k6_0 := And.intro (And.intro (And.intro (And.intro @m6_0 @m6_1) (And.intro @m6_4 @m6_7)) (And.intro (And.intro @m6_9 @m6_10) (And.intro @m6_11 @m6_14u))) (And.intro (And.intro (And.intro @m6_15 @m6_16) (And.intro @m6_18 @m6_21)) (And.intro (And.intro @m6_22 @m6_23) (And.intro @m6_26 @m6_27)))
def own_k6_1 := And.intro (And.intro (And.intro (And.intro @m6_28 @m6_29) (And.intro @m6_30 @m6_33)) (And.intro (And.intro @m6_34 @m6_37) (And.intro @m6_40u @m6_41))) (And.intro (And.intro (And.intro @m6_42 @m6_45) (And.intro @m6_48 @m6_49)) (And.intro (And.intro @m6_50 @m6_53) (And.intro @m6_54 @m6_55)))
def own_k6_2 := And.intro (And.intro (And.intro (And.intro @m6_58 @m6_60) (And.intro @m6_61 @m6_62)) (And.intro (And.intro @m6_63 @m6_66) (And.intro @m6_67 @m6_68))) (And.intro (And.intro (And.intro @m6_69 @m6_70) (And.intro @m6_73u @m6_74)) (And.intro (And.intro @m6_75 @m6_78) (And.intro @m6_79 @m6_80)))
def own_k6_3 := And.intro (And.intro (And.intro (And.intro @m6_83 @m6_84) (And.intro @m6_85 @m6_88)) (And.intro (And.intro @m6_90 @m6_91) (And.intro @m6_92 @m6_93))) (And.intro (And.intro (And.intro @m6_94 @m6_95) (And.intro @m6_98 @m6_99)) (And.intro (And.intro @m6_100 @m6_101) (And.intro @m6_102 @m6_105)))
def own_k6_4 := And.intro (And.intro (And.intro @m6_106 (And.intro @m6_107 @m6_110)) (And.intro @m6_111 (And.intro @m6_112 @m6_115))) (And.intro (And.intro @m6_116 (And.intro @m6_117 @m6_120)) (And.intro @m6_121 (And.intro @m6_124 @m6_125)))
def own_k7_0 := And.intro (And.intro (And.intro (And.intro @m7_0 @m7_1) (And.intro @m7_2 @m7_5)) (And.intro (And.intro @m7_6 @m7_7) (And.intro @m7_10 @m7_13))) (And.intro (And.intro (And.intro @m7_14 @m7_15) (And.intro @m7_16 @m7_17)) (And.intro (And.intro @m7_20u @m7_21) (And.intro @m7_22 @m7_23)))
def own_k7_1 := And.intro (And.intro (And.intro @m7_26 @m7_29) (And.intro @m7_30 @m7_31)) (And.intro (And.intro @m7_32 @m7_33) (And.intro @m7_34 @m7_35))
def own_k8_0 := And.intro (And.intro @m8_0 (And.intro @m8_1u @m8_2)) (And.intro @m8_3u (And.intro @m8_5 @m8_6u))
def own_k8_1 := And.intro (And.intro (And.intro (And.intro @m8_10 @m8_12) (And.intro @m8_15 @m8_17)) (And.intro (And.intro @m8_20 @m8_23) (And.intro @m8_24 @m8_26))) (And.intro (And.intro (And.intro @m8_27u @m8_27i) (And.intro @m8_27r @m8_29)) (And.intro (And.intro @m8_31i @m8_32) (And.intro @m8_34i @m8_36)))
def own_k8_2 := And.intro @m8_39 (And.intro @m8_42 @m8_43)
def own_k9_0 := And.intro (And.intro (And.intro (And.intro @m9_0 @m9_1) (And.intro @m9_4 @m9_5)) (And.intro (And.intro @m9_6 @m9_9) (And.intro @m9_10 @m9_11))) (And.intro (And.intro (And.intro @m9_14 @m9_15) (And.intro @m9_16 @m9_19)) (And.intro (And.intro @m9_20 @m9_21) (And.intro @m9_24 @m9_25)))
def own_k9_1 := And.intro (And.intro (And.intro @m9_26 @m9_29) (And.intro @m9_30 (And.intro @m9_31 @m9_34))) (And.intro (And.intro @m9_35 @m9_36) (And.intro @m9_39 (And.intro @m9_40 @m9_41u)))
def own_k9_2 := And.intro (And.intro (And.intro (And.intro @m9_43 @m9_44) (And.intro @m9_47 @m9_48)) (And.intro (And.intro @m9_51 @m9_52) (And.intro @m9_53 @m9_54))) (And.intro (And.intro (And.intro @m9_55 @m9_56) (And.intro @m9_57 @m9_60)) (And.intro (And.intro @m9_61 @m9_62) (And.intro @m9_63 @m9_64)))
def own_k9_3 := And.intro (And.intro (And.intro @m9_67 (And.intro @m9_68 @m9_69)) (And.intro @m9_70 (And.intro @m9_71 @m9_72))) (And.intro (And.intro @m9_73 (And.intro @m9_76 @m9_77)) (And.intro (And.intro @m9_78 @m9_79) (And.intro @m9_82 @m9_85)))
def own_k10_0 := And.intro (And.intro @m10_0 @m10_1) (And.intro @m10_2 (And.intro @m10_5 @m10_6u))
def own_k10_1 := And.intro (And.intro (And.intro (And.intro @m10_8 @m10_9) (And.intro @m10_12 @m10_13)) (And.intro (And.intro @m10_14 @m10_15) (And.intro @m10_18u @m10_18i))) (And.intro (And.intro (And.intro @m10_18r @m10_19) (And.intro @m10_20 @m10_23)) (And.intro (And.intro @m10_24 @m10_25) (And.intro @m10_26 @m10_27)))
def own_k10_2 := And.intro (And.intro (And.intro (And.intro @m10_28 @m10_29) (And.intro @m10_30 @m10_33u)) (And.intro (And.intro @m10_33i @m10_33r) (And.intro @m10_35 @m10_37))) (And.intro (And.intro (And.intro @m10_40 @m10_41) (And.intro @m10_42 @m10_43)) (And.intro (And.intro @m10_46 @m10_47) (And.intro @m10_49 @m10_50)))
def own_k10_3 := And.intro @m10_53 (And.intro @m10_56 @m10_57)
def own_k11_0 := And.intro (And.intro (And.intro @m11_3 @m11_4) (And.intro @m11_7 (And.intro @m11_8u @m11_8i))) (And.intro (And.intro @m11_8r @m11_9) (And.intro @m11_10u (And.intro @m11_10i @m11_10r)))
def own_k11_1 := And.intro (And.intro (And.intro (And.intro @m11_14 @m11_15) (And.intro @m11_18 @m11_19)) (And.intro (And.intro @m11_22 @m11_24) (And.intro @m11_25 @m11_26))) (And.intro (And.intro (And.intro @m11_27 @m11_28) (And.intro @m11_29 @m11_32)) (And.intro (And.intro @m11_33 @m11_36) (And.intro @m11_38 @m11_39)))
def own_k11_2 := And.intro (And.intro (And.intro (And.intro @m11_40 @m11_43) (And.intro @m11_44 @m11_47)) (And.intro (And.intro @m11_49 @m11_50i) (And.intro @m11_51 @m11_54))) (And.intro (And.intro (And.intro @m11_57 @m11_58) (And.intro @m11_61 @m11_62)) (And.intro (And.intro @m11_63 @m11_64) (And.intro @m11_67 @m11_70)))
def own_k12_0 := And.intro (And.intro (And.intro @m12_0 @m12_1u) (And.intro @m12_2 @m12_3)) (And.intro (And.intro @m12_6 @m12_7) (And.intro @m12_8u (And.intro @m12_10 @m12_11u)))
def own_k12_1 := And.intro (And.intro (And.intro @m12_15 (And.intro @m12_16 @m12_19)) (And.intro @m12_20 (And.intro @m12_23 @m12_25))) (And.intro (And.intro @m12_26 (And.intro @m12_28 @m12_31)) (And.intro (And.intro @m12_34 @m12_35u) (And.intro @m12_35i @m12_35r)))
def own_k12_2 := And.intro (And.intro (And.intro (And.intro @m12_39 @m12_40) (And.intro @m12_43 @m12_44)) (And.intro (And.intro @m12_47 @m12_49) (And.intro @m12_50 @m12_51))) (And.intro (And.intro (And.intro @m12_53 @m12_54) (And.intro @m12_55u @m12_55i)) (And.intro (And.intro @m12_55r @m12_57) (And.intro @m12_59 @m12_62)))
def own_k12_3 := And.intro (And.intro (And.intro (And.intro @m12_63 @m12_66) (And.intro @m12_68 @m12_69)) (And.intro (And.intro @m12_71 @m12_74) (And.intro @m12_76 @m12_77))) (And.intro (And.intro (And.intro @m12_80 @m12_82i) (And.intro @m12_83 @m12_86)) (And.intro (And.intro @m12_89 @m12_92) (And.intro @m12_95 @m12_96)))
def own_k13_0 := And.intro (And.intro (And.intro @m13_0 @m13_1) (And.intro @m13_4 (And.intro @m13_5 @m13_6))) (And.intro (And.intro @m13_7 (And.intro @m13_8u @m13_10)) (And.intro @m13_12u (And.intro @m13_14 @m13_15u)))
def own_k13_1 := And.intro (And.intro (And.intro (And.intro @m13_19 @m13_22) (And.intro @m13_25 @m13_27)) (And.intro (And.intro @m13_28 @m13_31) (And.intro @m13_32 @m13_33))) (And.intro (And.intro (And.intro @m13_36 @m13_37) (And.intro @m13_38 @m13_40)) (And.intro (And.intro @m13_41 @m13_42) (And.intro @m13_43 @m13_45)))
def own_k13_2 := And.intro (And.intro (And.intro @m13_48 (And.intro @m13_49u @m13_49i)) (And.intro (And.intro @m13_49r @m13_51) (And.intro @m13_53 @m13_55))) (And.intro (And.intro (And.intro @m13_58 @m13_60) (And.intro @m13_61 @m13_63i)) (And.intro (And.intro @m13_65 @m13_68) (And.intro @m13_71 @m13_72)))
def own_k14_0 := And.intro (And.intro (And.intro @m14_0 @m14_1u) (And.intro @m14_3 @m14_4)) (And.intro (And.intro @m14_7 @m14_8) (And.intro @m14_9u (And.intro @m14_11 @m14_12u)))
def own_k14_1 := And.intro (And.intro (And.intro (And.intro @m14_16 @m14_17) (And.intro @m14_20 @m14_21)) (And.intro (And.intro @m14_24 @m14_26) (And.intro @m14_27u @m14_27i))) (And.intro (And.intro (And.intro @m14_27r @m14_29) (And.intro @m14_30 @m14_33)) (And.intro (And.intro @m14_35 @m14_36) (And.intro @m14_38 @m14_41)))
def own_k14_2 := And.intro (And.intro (And.intro (And.intro @m14_43 @m14_46) (And.intro @m14_48 @m14_49)) (And.intro (And.intro @m14_51 @m14_52) (And.intro @m14_53 @m14_54))) (And.intro (And.intro (And.intro @m14_56 @m14_57) (And.intro @m14_58 @m14_61)) (And.intro (And.intro @m14_63 @m14_64) (And.intro @m14_65 @m14_66i)))
def own_k14_3 := And.intro (And.intro @m14_68 @m14_71) (And.intro @m14_74 @m14_76)
def own_k15_0 := And.intro (And.intro (And.intro (And.intro @m15_3 @m15_4) (And.intro @m15_7 @m15_8)) (And.intro (And.intro @m15_11 @m15_12) (And.intro @m15_13 @m15_16))) (And.intro (And.intro (And.intro @m15_17 @m15_18) (And.intro @m15_19 @m15_20)) (And.intro (And.intro @m15_23 @m15_24) (And.intro @m15_25 @m15_28)))
def own_k15_1 := And.intro (And.intro @m15_29 (And.intro @m15_30 @m15_31)) (And.intro @m15_34 (And.intro @m15_37 @m15_38i))
def own_k15_2 := And.intro (And.intro (And.intro @m15_40 (And.intro @m15_41 @m15_44)) (And.intro @m15_45 (And.intro @m15_48 @m15_49))) (And.intro (And.intro @m15_50 (And.intro @m15_53 @m15_54)) (And.intro (And.intro @m15_55 @m15_56) (And.intro @m15_59 @m15_62)))
def own_k16_0 := And.intro @m16_0 (And.intro @m16_1 @m16_4)
def own_k17_0 := And.intro @m17_0 (And.intro @m17_1 @m17_4)
def own_k18_0 := And.intro (And.intro (And.intro @m18_0 @m18_1) (And.intro @m18_2 (And.intro @m18_5 @m18_8))) (And.intro (And.intro @m18_9 (And.intro @m18_10 @m18_11)) (And.intro @m18_14 (And.intro @m18_15 @m18_16)))
def own_k19_0 := And.intro (And.intro (And.intro @m19_0 @m19_1) (And.intro @m19_4 (And.intro @m19_5 @m19_6))) (And.intro (And.intro @m19_9 @m19_12) (And.intro @m19_13 (And.intro @m19_16 @m19_17)))
def own_k20_0 := And.intro (And.intro (And.intro @m20_0 @m20_1) (And.intro @m20_2 (And.intro @m20_5 @m20_8))) (And.intro (And.intro @m20_9 (And.intro @m20_10 @m20_11)) (And.intro @m20_14 (And.intro @m20_15 @m20_16)))
def own_k21_0 := And.intro (And.intro (And.intro @m21_0 (And.intro @m21_1 @m21_4)) (And.intro @m21_5 (And.intro @m21_6 @m21_9))) (And.intro (And.intro @m21_10 (And.intro @m21_11 @m21_12)) (And.intro @m21_15 (And.intro @m21_16 @m21_17)))
def own_k22_0 := And.intro @m22_0 (And.intro @m22_1 @m22_4)
def own_k32_0 := And.intro @m32_0 (And.intro @m32_1 @m32_4)
def own_k33_0 := And.intro @m33_0 (And.intro @m33_1 @m33_4)
def own_k34_0 := And.intro (And.intro (And.intro @m34_0 @m34_1) (And.intro @m34_4 @m34_5)) (And.intro (And.intro @m34_6 @m34_9) (And.intro @m34_10 (And.intro @m34_11 @m34_12u)))
def own_k34_1 := And.intro (And.intro (And.intro (And.intro @m34_14 @m34_15) (And.intro @m34_18 @m34_21)) (And.intro (And.intro @m34_22 @m34_25) (And.intro @m34_26 @m34_27))) (And.intro (And.intro (And.intro @m34_30 @m34_31) (And.intro @m34_34 @m34_35)) (And.intro (And.intro @m34_36 @m34_37) (And.intro @m34_40 @m34_41)))
def own_k34_2 := And.intro (And.intro @m34_42 @m34_45) (And.intro @m34_48 @m34_49)
def own_k35_0 := And.intro (And.intro (And.intro @m35_0 @m35_1) (And.intro @m35_2 (And.intro @m35_5 @m35_8))) (And.intro (And.intro @m35_9 (And.intro @m35_10 @m35_11)) (And.intro @m35_14 (And.intro @m35_15 @m35_16)))
def own_k36_0 := And.intro (And.intro (And.intro @m36_0 @m36_1) (And.intro @m36_2 (And.intro @m36_5 @m36_8))) (And.intro (And.intro @m36_9 (And.intro @m36_10 @m36_11)) (And.intro @m36_14 (And.intro @m36_15 @m36_16)))
def own_k38_0 := And.intro (And.intro (And.intro (And.intro @m38_0 @m38_1) (And.intro @m38_2 @m38_4)) (And.intro (And.intro @m38_7 @m38_8u) (And.intro @m38_10 @m38_11))) (And.intro (And.intro (And.intro @m38_12 @m38_14) (And.intro @m38_17 @m38_18u)) (And.intro (And.intro @m38_20 @m38_21) (And.intro @m38_22 @m38_23)))
def own_k38_1 := And.intro (And.intro (And.intro (And.intro @m38_26 @m38_27u) (And.intro @m38_29 @m38_31)) (And.intro (And.intro @m38_32 @m38_34) (And.intro @m38_37 @m38_38u))) (And.intro (And.intro (And.intro @m38_40 @m38_42) (And.intro @m38_44 @m38_46)) (And.intro (And.intro @m38_49 @m38_50u) (And.intro @m38_52 @m38_54)))
def own_k38_2 := And.intro (And.intro (And.intro (And.intro @m38_55 @m38_58u) (And.intro @m38_60 @m38_63)) (And.intro (And.intro @m38_64 @m38_66) (And.intro @m38_69u @m38_71))) (And.intro (And.intro (And.intro @m38_73 @m38_75) (And.intro @m38_77 @m38_79)) (And.intro (And.intro @m38_80 @m38_83) (And.intro @m38_86 @m38_87)))
def own_k38_3 := And.intro (And.intro (And.intro (And.intro @m38_88 @m38_90) (And.intro @m38_92 @m38_93)) (And.intro (And.intro @m38_95 @m38_98) (And.intro @m38_101 @m38_102))) (And.intro (And.intro (And.intro @m38_103 @m38_105) (And.intro @m38_108 @m38_111)) (And.intro (And.intro @m38_112 @m38_113) (And.intro @m38_115 @m38_117)))
def own_k38_4 := And.intro (And.intro (And.intro (And.intro @m38_119 @m38_121) (And.intro @m38_122 @m38_125)) (And.intro (And.intro @m38_128 @m38_129) (And.intro @m38_130 @m38_132))) (And.intro (And.intro (And.intro @m38_134 @m38_135) (And.intro @m38_136 @m38_139)) (And.intro (And.intro @m38_142 @m38_143) (And.intro @m38_144 @m38_146)))
def own_k38_5 := And.intro (And.intro (And.intro (And.intro @m38_149u @m38_151) (And.intro @m38_152u @m38_154)) (And.intro (And.intro @m38_156 @m38_158) (And.intro @m38_159 @m38_161))) (And.intro (And.intro (And.intro @m38_164 @m38_165i) (And.intro @m38_167 @m38_170)) (And.intro (And.intro @m38_172 @m38_174) (And.intro @m38_175 @m38_177)))
def own_k38_6 := And.intro (And.intro (And.intro (And.intro @m38_180 @m38_181i) (And.intro @m38_183 @m38_185)) (And.intro (And.intro @m38_188 @m38_189) (And.intro @m38_192 @m38_193u))) (And.intro (And.intro (And.intro @m38_195 @m38_197) (And.intro @m38_199 @m38_202)) (And.intro (And.intro @m38_203 @m38_206) (And.intro @m38_208 @m38_211)))
def own_k38_7 := And.intro (And.intro (And.intro (And.intro @m38_212 @m38_213) (And.intro @m38_215 @m38_218)) (And.intro (And.intro @m38_220 @m38_223) (And.intro @m38_224 @m38_225))) (And.intro (And.intro (And.intro @m38_227 @m38_230) (And.intro @m38_232 @m38_235)) (And.intro (And.intro @m38_236 @m38_239) (And.intro @m38_240 @m38_243)))
def own_k38_8 := And.intro (And.intro (And.intro (And.intro @m38_244 @m38_245) (And.intro @m38_247 @m38_248)) (And.intro (And.intro @m38_251 @m38_253) (And.intro @m38_256 @m38_258))) (And.intro (And.intro (And.intro @m38_260 @m38_261) (And.intro @m38_264 @m38_266)) (And.intro (And.intro @m38_269 @m38_270) (And.intro @m38_271 @m38_273)))
def own_k38_9 := And.intro (And.intro (And.intro (And.intro @m38_274 @m38_277) (And.intro @m38_280 @m38_281)) (And.intro (And.intro @m38_282 @m38_284) (And.intro @m38_285 @m38_288))) (And.intro (And.intro (And.intro @m38_290 @m38_293) (And.intro @m38_295 @m38_297)) (And.intro (And.intro @m38_298 @m38_301) (And.intro @m38_302 @m38_305)))
def own_k38_10 := And.intro (And.intro (And.intro (And.intro @m38_306 @m38_307) (And.intro @m38_309 @m38_310)) (And.intro (And.intro @m38_313 @m38_315) (And.intro @m38_318 @m38_320))) (And.intro (And.intro (And.intro @m38_323 @m38_324) (And.intro @m38_327 @m38_328)) (And.intro (And.intro @m38_329 @m38_331) (And.intro @m38_333 @m38_336)))
def own_k38_11 := And.intro (And.intro (And.intro (And.intro @m38_338 @m38_341) (And.intro @m38_342 @m38_345)) (And.intro (And.intro @m38_346 @m38_349) (And.intro @m38_350 @m38_351))) (And.intro (And.intro (And.intro @m38_353 @m38_356) (And.intro @m38_358 @m38_361)) (And.intro (And.intro @m38_362 @m38_363) (And.intro @m38_365 @m38_368)))
def own_k38_12 := And.intro (And.intro (And.intro (And.intro @m38_371 @m38_373) (And.intro @m38_376 @m38_377)) (And.intro (And.intro @m38_378 @m38_380) (And.intro @m38_383 @m38_385))) (And.intro (And.intro (And.intro @m38_388 @m38_389) (And.intro @m38_390 @m38_392)) (And.intro (And.intro @m38_395 @m38_398) (And.intro @m38_399 @m38_400)))
def own_k38_13 := And.intro (And.intro (And.intro (And.intro @m38_402 @m38_404) (And.intro @m38_407 @m38_408)) (And.intro (And.intro @m38_411 @m38_412) (And.intro @m38_413 @m38_415))) (And.intro (And.intro (And.intro @m38_416 @m38_419) (And.intro @m38_420 @m38_423)) (And.intro (And.intro @m38_424 @m38_425) (And.intro @m38_427 @m38_428)))
def own_k38_14 := And.intro (And.intro (And.intro (And.intro @m38_431 @m38_433) (And.intro @m38_436 @m38_438)) (And.intro (And.intro @m38_440 @m38_441) (And.intro @m38_444 @m38_446))) (And.intro (And.intro (And.intro @m38_449 @m38_450) (And.intro @m38_451 @m38_453)) (And.intro (And.intro @m38_454 @m38_457) (And.intro @m38_459 @m38_462)))
def own_k38_15 := And.intro (And.intro (And.intro (And.intro @m38_463 @m38_466) (And.intro @m38_467 @m38_470)) (And.intro (And.intro @m38_471 @m38_472) (And.intro @m38_474 @m38_475))) (And.intro (And.intro (And.intro @m38_478 @m38_480) (And.intro @m38_483 @m38_485)) (And.intro (And.intro @m38_488 @m38_489) (And.intro @m38_492 @m38_493)))
def LN (A : Nat → List Int32) : Prop := ∀ i, (A i).length = (A0 i).length
theorem LN_ou {A : Nat → List Int32} {j : Nat} {l : List Int32} (h : LN A) (hl : l.length = (A0 j).length) : LN (ou A j l) := len_ou h hl
theorem i_24 : (24 : Int32).toInt = 24 := rfl
theorem i_840 : (840 : Int32).toInt = 840 := rfl
theorem i_8 : (8 : Int32).toInt = 8 := rfl
theorem i_4 : (4 : Int32).toInt = 4 := rfl
def uu (x k : Int32) : Int32 := if x % k < 0 then x % k + k else x % k
theorem uu_bd (x : Int32) {k : Int32} (k0 : 1 ≤ k.toInt) (k1 : k.toInt ≤ 8) : 0 ≤ (uu x k).toInt ∧ (uu x k).toInt < k.toInt := by
  have e : (x % k).toInt = x.toInt.tmod k.toInt := Int32.toInt_mod _ _
  have h1 := Int.tmod_lt_of_pos x.toInt (show 0 < k.toInt by omega)
  have h2 := Int.tmod_lt_of_pos (-x.toInt) (show 0 < k.toInt by omega)
  rw [Int.neg_tmod] at h2
  unfold uu
  by_cases h : x % k < 0
  · rw [if_pos h]
    rw [lt_i, i_0, e] at h
    have a := add_i (a := x % k) (b := k) (by rw [e]; omega) (by rw [e]; omega)
    rw [a, e]
    omega
  · rw [if_neg h]
    rw [nn_i, e] at h
    rw [e]
    omega
theorem dv {x : Int32} (h0 : 1 ≤ x.toInt) (h1 : x.toInt ≤ 12) : (x + 24 - 1) / 24 = 1 ∧ (x + 23) / 24 = 1 := by
  obtain ⟨k, hk, e⟩ := rng (x := x) (n := 13) (by omega) (by omega)
  have hk' : k = 0 ∨ k = 1 ∨ k = 2 ∨ k = 3 ∨ k = 4 ∨ k = 5 ∨ k = 6 ∨ k = 7 ∨ k = 8 ∨ k = 9 ∨ k = 10 ∨ k = 11 ∨ k = 12 := by omega
  subst e
  rcases hk' with rfl | rfl | rfl | rfl | rfl | rfl | rfl | rfl | rfl | rfl | rfl | rfl | rfl
  · exact absurd h0 (by decide)
  all_goals decide +kernel
theorem md24 {t : Int32} (h0 : 1 ≤ t.toInt) (h1 : t.toInt < 24) : ¬ t % 24 = 0 := by
  intro q
  have e : (t % 24).toInt = t.toInt.tmod (24 : Int32).toInt := Int32.toInt_mod _ _
  rw [q, i_0, i_24, Int.tmod_eq_of_lt (by omega) h1] at e
  omega
section Gate
variable {Q : Option Value → AHeap → Prop} {s : Nat → Int32} {A : Nat → List Int32}
theorem bL (hL : LN A) : (A 0).length = 9 ∧ (A 1).length = 9 ∧ (A 2).length = 9 ∧ (A 3).length = 9 ∧ (A 4).length = 36 ∧ (A 5).length = 36 ∧ (A 6).length = 9 ∧ (A 7).length = 9 ∧ (A 8).length = 4 ∧ (A 9).length = 4 ∧ (A 10).length = 4 ∧ (A 11).length = 4 ∧ (A 12).length = 9 ∧ (A 13).length = 9 ∧ (A 14).length = 9 ∧ (A 15).length = 9 ∧ (A 16).length = 9 ∧ (A 17).length = 9 ∧ (A 18).length = 9 ∧ (A 19).length = 9 := ⟨(hL 0).trans A0l_0, (hL 1).trans A0l_1, (hL 2).trans A0l_2, (hL 3).trans A0l_3, (hL 4).trans A0l_4, (hL 5).trans A0l_5, (hL 6).trans A0l_6, (hL 7).trans A0l_7, (hL 8).trans A0l_8, (hL 9).trans A0l_9, (hL 10).trans A0l_10, (hL 11).trans A0l_11, (hL 12).trans A0l_12, (hL 13).trans A0l_13, (hL 14).trans A0l_14, (hL 15).trans A0l_15, (hL 16).trans A0l_16, (hL 17).trans A0l_17, (hL 18).trans A0l_18, (hL 19).trans A0l_19⟩
def SM (A : Nat → List Int32) (i p g h n m : Int32) : Prop := getA (A 14) i = p ∧ getA (A 15) i = 0 ∧ getA (A 16) i = g ∧ getA (A 17) i = h ∧ getA (A 18) i = n ∧ getA (A 19) i = m
def S0 (r l0 c0 d0 ce : Int32) (A : Nat → List Int32) : Prop := getA (A 0) 0 = 24 ∧ getA (A 1) 0 = d0 ∧ getA (A 2) 0 = c0 ∧ getA (A 3) 0 = 1 ∧ getA (A 4) 0 = 0 ∧ getA (A 4) 1 = 0 ∧ getA (A 4) 2 = 0 ∧ getA (A 4) 3 = 0 ∧ getA (A 5) 0 = (if r = 0 then l0 else 0) ∧ getA (A 5) 1 = (if r = 1 then l0 else 0) ∧ getA (A 5) 2 = (if r = 2 then l0 else 0) ∧ getA (A 5) 3 = (if r = 3 then l0 else 0) ∧ getA (A 8) r = ce
def S1 (r c1 d1 : Int32) (A : Nat → List Int32) : Prop := getA (A 0) 1 = 24 ∧ getA (A 1) 1 = d1 ∧ getA (A 2) 1 = c1 ∧ getA (A 3) 1 = 2 ∧ getA (A 4) 4 = 0 ∧ getA (A 4) 5 = 0 ∧ getA (A 4) 6 = 0 ∧ getA (A 4) 7 = 0 ∧ getA (A 5) 4 = (if r = 0 then 1 else 0) ∧ getA (A 5) 5 = (if r = 1 then 1 else 0) ∧ getA (A 5) 6 = (if r = 2 then 1 else 0) ∧ getA (A 5) 7 = (if r = 3 then 1 else 0)
theorem S0_fr {A' : Nat → List Int32} {r l0 c0 d0 ce : Int32} (h : ∀ j, j < 14 → A' j = A j) (k : S0 r l0 c0 d0 ce A) : S0 r l0 c0 d0 ce A' := by
  unfold S0 at *
  rw [h 0 (by decide), h 1 (by decide), h 2 (by decide), h 3 (by decide), h 4 (by decide), h 5 (by decide), h 8 (by decide)]
  exact k
theorem S1_fr {A' : Nat → List Int32} {r c1 d1 : Int32} (h : ∀ j, j < 14 → A' j = A j) (k : S1 r c1 d1 A) : S1 r c1 d1 A' := by
  unfold S1 at *
  rw [h 0 (by decide), h 1 (by decide), h 2 (by decide), h 3 (by decide), h 4 (by decide), h 5 (by decide)]
  exact k
set_option maxRecDepth 1000000 in
set_option maxHeartbeats 20000000 in
theorem rs (hL : LN A) (hQ : ∀ A', LN A' → (∀ j, j < 14 → A' j = A j) → SM A' 0 0 0 (-1) 0 0 → SM A' 1 0 0 (-1) 0 0 → Q none (put 0 [] (ou (ou s 9 0) 10 0) A' [])) : M1 0 [.val (.ref 0), .unset] [] (put 0 [] s A []) Q := by
  have bl := bL hL
  simp [inB_iff, setA_len, getA_set2, bl, ou_same, ou_comm, setA_same, own_k1_0, m1_12, own_k1_1, own_k1_2, own_k1_3, nb0, nb1, ou_a, Option.toList_some, Option.toList_none, List.nil_append, List.cons_append]
  exact hQ _ (by (repeat refine LN_ou ?_ (by simp only [setA_len]; exact hL _)); exact hL) (by intro j hj; simp only [ou_a, if_neg (show ¬ j = 14 by omega), if_neg (show ¬ j = 15 by omega), if_neg (show ¬ j = 16 by omega), if_neg (show ¬ j = 17 by omega), if_neg (show ¬ j = 18 by omega), if_neg (show ¬ j = 19 by omega)]) (by unfold SM; simp [bl, getA_set2, setA_len, ou_a]) (by unfold SM; simp [bl, getA_set2, setA_len, ou_a])
set_option maxRecDepth 1000000 in
set_option maxHeartbeats 20000000 in
theorem tkA {r l0 c0 c1 d0 d1 : Int32} (hr : r = 0 ∨ r = 1 ∨ r = 2 ∨ r = 3) (hL : LN A) (e1 : s 1 = 2) (e9 : s 9 = 0) (h0 : S0 r l0 c0 d0 2 A) (h1 : S1 r c1 d1 A) (p0 : SM A 0 0 0 (-1) 0 0) (p1 : SM A 1 0 0 (-1) 0 0) (lp : 0 < l0) (q0 : ¬ d0 = 1) (q1 : ¬ c1 = 1 → ¬ d1 = 1)
    (hQ : ∀ A', LN A' → (∀ j, j < 14 → A' j = A j) → SM A' 0 1 0 (-1) 0 0 → (if c1 = 1 then SM A' 1 0 1 (-1) 1 1 else SM A' 1 1 1 (-1) 0 0) → Q none (put 0 [] (ou s 9 1) A' [])) : M24 0 [.val (.ref 0), .unset] [] (put 0 [] s A []) Q := by
  have bl := bL hL
  unfold S0 at h0
  unfold S1 at h1
  unfold SM at p0 p1
  by_cases g : c1 = 1
  · subst g
    rcases hr with rfl | rfl | rfl | rfl
    all_goals
      simp [e1, e9, h0, h1, p0, p1, lp, q0, inB_iff, setA_len, getA_set2, bl, ou_same, ou_comm, setA_same, own_k24_0, own_k24_1, m25_0, m25_1u, m25_2, own_k25_0, own_k25_1, own_k25_2, own_k26_0, m26_9, own_k26_1, own_k26_2, own_k26_3, own_k27_0, own_k27_1, own_k28_0, own_k28_1, own_k28_2, own_k28_3, own_k29_0, m29_12, own_k29_1, own_k29_2, m29_63, own_k30_0, own_k30_1, own_k30_2, m31_0, m31_1u, m31_2, own_k31_0, own_k31_1, own_k31_2, nb0, nb1, ou_a, Option.toList_some, Option.toList_none, List.nil_append, List.cons_append]
      exact hQ _ (by (repeat refine LN_ou ?_ (by simp only [setA_len]; exact hL _)); exact hL) (by intro j hj; simp only [ou_a, if_neg (show ¬ j = 14 by omega), if_neg (show ¬ j = 15 by omega), if_neg (show ¬ j = 16 by omega), if_neg (show ¬ j = 17 by omega), if_neg (show ¬ j = 18 by omega), if_neg (show ¬ j = 19 by omega)]) (by unfold SM; simp [p0, p1, bl, getA_set2, setA_len, ou_a]) (by rw [if_pos rfl]; unfold SM; simp [p0, p1, bl, getA_set2, setA_len, ou_a])
  · have q := q1 g
    have g' : ¬ 1 = c1 := fun z => g z.symm
    rcases hr with rfl | rfl | rfl | rfl
    all_goals
      simp [e1, e9, h0, h1, p0, p1, lp, q0, q, g, g', inB_iff, setA_len, getA_set2, bl, ou_same, ou_comm, setA_same, own_k24_0, own_k24_1, m25_0, m25_1u, m25_2, own_k25_0, own_k25_1, own_k25_2, own_k26_0, m26_9, own_k26_1, own_k26_2, own_k26_3, own_k27_0, own_k27_1, own_k28_0, own_k28_1, own_k28_2, own_k28_3, own_k29_0, m29_12, own_k29_1, own_k29_2, m29_63, own_k30_0, own_k30_1, own_k30_2, m31_0, m31_1u, m31_2, own_k31_0, own_k31_1, own_k31_2, nb0, nb1, ou_a, Option.toList_some, Option.toList_none, List.nil_append, List.cons_append]
      exact hQ _ (by (repeat refine LN_ou ?_ (by simp only [setA_len]; exact hL _)); exact hL) (by intro j hj; simp only [ou_a, if_neg (show ¬ j = 14 by omega), if_neg (show ¬ j = 15 by omega), if_neg (show ¬ j = 16 by omega), if_neg (show ¬ j = 17 by omega), if_neg (show ¬ j = 18 by omega), if_neg (show ¬ j = 19 by omega)]) (by unfold SM; simp [p0, p1, bl, getA_set2, setA_len, ou_a]) (by rw [if_neg g]; unfold SM; simp [p0, p1, bl, getA_set2, setA_len, ou_a])
set_option maxRecDepth 1000000 in
set_option maxHeartbeats 20000000 in
theorem tkB {r l0 c0 c1 d0 d1 t u : Int32} (hr : r = 0 ∨ r = 1 ∨ r = 2 ∨ r = 3) (hL : LN A) (e1 : s 1 = 2) (e9 : s 9 = t) (h0 : S0 r l0 c0 d0 2 A) (h1 : S1 r c1 d1 A) (p0 : SM A 0 1 0 (-1) 0 0) (p1 : SM A 1 1 t (-1) 0 0) (lp : 0 < l0) (hv : t + 1 = u) (tm : ¬ t % 24 = 0) (t0 : ¬ t = 0) (u0 : 0 < u) (q0 : ¬ d0 = u) (q1 : ¬ u = c1 → ¬ d1 = u)
    (hQ : ∀ A', LN A' → (∀ j, j < 14 → A' j = A j) → SM A' 0 1 0 (-1) 0 0 → (if u = c1 then SM A' 1 0 u (-1) 1 u else SM A' 1 1 u (-1) 0 0) → Q none (put 0 [] (ou s 9 u) A' [])) : M24 0 [.val (.ref 0), .unset] [] (put 0 [] s A []) Q := by
  have bl := bL hL
  unfold S0 at h0
  unfold S1 at h1
  unfold SM at p0 p1
  have t0' : ¬ 0 = t := fun z => t0 z.symm
  by_cases g : u = c1
  · subst g
    rcases hr with rfl | rfl | rfl | rfl
    all_goals
      simp [e1, e9, h0, h1, p0, p1, lp, hv, tm, t0, t0', u0, q0, inB_iff, setA_len, getA_set2, bl, ou_same, ou_comm, setA_same, own_k24_0, own_k24_1, m25_0, m25_1u, m25_2, own_k25_0, own_k25_1, own_k25_2, own_k26_0, m26_9, own_k26_1, own_k26_2, own_k26_3, own_k27_0, own_k27_1, own_k28_0, own_k28_1, own_k28_2, own_k28_3, own_k29_0, m29_12, own_k29_1, own_k29_2, m29_63, own_k30_0, own_k30_1, own_k30_2, m31_0, m31_1u, m31_2, own_k31_0, own_k31_1, own_k31_2, nb0, nb1, ou_a, Option.toList_some, Option.toList_none, List.nil_append, List.cons_append]
      exact hQ _ (by (repeat refine LN_ou ?_ (by simp only [setA_len]; exact hL _)); exact hL) (by intro j hj; simp only [ou_a, if_neg (show ¬ j = 14 by omega), if_neg (show ¬ j = 15 by omega), if_neg (show ¬ j = 16 by omega), if_neg (show ¬ j = 17 by omega), if_neg (show ¬ j = 18 by omega), if_neg (show ¬ j = 19 by omega)]) (by unfold SM; simp [p0, p1, bl, getA_set2, setA_len, ou_a]) (by rw [if_pos rfl]; unfold SM; simp [p0, p1, bl, getA_set2, setA_len, ou_a])
  · have q := q1 g
    rcases hr with rfl | rfl | rfl | rfl
    all_goals
      simp [e1, e9, h0, h1, p0, p1, lp, hv, tm, t0, t0', u0, q0, q, g, inB_iff, setA_len, getA_set2, bl, ou_same, ou_comm, setA_same, own_k24_0, own_k24_1, m25_0, m25_1u, m25_2, own_k25_0, own_k25_1, own_k25_2, own_k26_0, m26_9, own_k26_1, own_k26_2, own_k26_3, own_k27_0, own_k27_1, own_k28_0, own_k28_1, own_k28_2, own_k28_3, own_k29_0, m29_12, own_k29_1, own_k29_2, m29_63, own_k30_0, own_k30_1, own_k30_2, m31_0, m31_1u, m31_2, own_k31_0, own_k31_1, own_k31_2, nb0, nb1, ou_a, Option.toList_some, Option.toList_none, List.nil_append, List.cons_append]
      exact hQ _ (by (repeat refine LN_ou ?_ (by simp only [setA_len]; exact hL _)); exact hL) (by intro j hj; simp only [ou_a, if_neg (show ¬ j = 14 by omega), if_neg (show ¬ j = 15 by omega), if_neg (show ¬ j = 16 by omega), if_neg (show ¬ j = 17 by omega), if_neg (show ¬ j = 18 by omega), if_neg (show ¬ j = 19 by omega)]) (by unfold SM; simp [p0, p1, bl, getA_set2, setA_len, ou_a]) (by rw [if_neg g]; unfold SM; simp [p0, p1, bl, getA_set2, setA_len, ou_a])
def HR (r l0 g h : Int32) : Prop := (g = 0 ∧ h = -1) ∨ (¬ g = 0 ∧ g.toInt < l0.toInt ∧ h = r) ∨ (¬ g = 0 ∧ l0.toInt ≤ g.toInt ∧ h = -1)
set_option maxRecDepth 1000000 in
set_option maxHeartbeats 20000000 in
theorem tkC2 {r l0 c0 d0 g u h t w c1 d1 b1 b2 : Int32} (hr : r = 0 ∨ r = 1 ∨ r = 2 ∨ r = 3) (hL : LN A) (e1 : s 1 = 2) (e9 : s 9 = t) (h0 : S0 r l0 c0 d0 2 A) (h1 : S1 r c1 d1 A) (p1 : SM A 1 0 b1 (-1) 1 b2) (p0 : SM A 0 1 g h 0 0) (hh : HR r l0 g h) (lp : 0 < l0) (lc : l0.toInt ≤ c0.toInt) (gc : 0 ≤ g.toInt ∧ g.toInt < c0.toInt) (c8 : c0.toInt ≤ 8) (hg : g + 1 = u) (ht : t + 1 = w) (tm : ¬ t % 24 = 0) (w0 : 0 < w) (q0 : ¬ u = c0 → ¬ d0 = w)
    (hQ : ∀ A' h', LN A' → (∀ j, j < 14 → A' j = A j) → (u = c0 ∧ SM A' 0 0 u (-1) 1 w) ∨ (¬ u = c0 ∧ HR r l0 u h' ∧ SM A' 0 1 u h' 0 0) → SM A' 1 0 b1 (-1) 1 b2 → Q none (put 0 [] (ou s 9 w) A' [])) : M24 0 [.val (.ref 0), .unset] [] (put 0 [] s A []) Q := by
  have bl := bL hL
  unfold S0 at h0
  unfold S1 at h1
  unfold SM at p0 p1
  rcases hh with ⟨rfl, rfl⟩ | ⟨g0, gl, rfl⟩ | ⟨g0, gl, rfl⟩
  · have eu : u = 1 := hg.symm.trans (by decide)
    subst eu
    by_cases y : l0 = 1
    · subst y
      by_cases k : c0 = 1
      · subst k
        rcases hr with rfl | rfl | rfl | rfl
        all_goals
          simp [e1, e9, h0, h1, p1, p0, lp, ht, tm, w0, inB_iff, setA_len, getA_set2, bl, ou_same, ou_comm, setA_same, own_k24_0, own_k24_1, m25_0, m25_1u, m25_2, own_k25_0, own_k25_1, own_k25_2, own_k26_0, m26_9, own_k26_1, own_k26_2, own_k26_3, own_k27_0, own_k27_1, own_k28_0, own_k28_1, own_k28_2, own_k28_3, own_k29_0, m29_12, own_k29_1, own_k29_2, m29_63, own_k30_0, own_k30_1, own_k30_2, m31_0, m31_1u, m31_2, own_k31_0, own_k31_1, own_k31_2, nb0, nb1, ou_a, Option.toList_some, Option.toList_none, List.nil_append, List.cons_append]
          exact hQ _ (-1) (by (repeat refine LN_ou ?_ (by simp only [setA_len]; exact hL _)); exact hL) (by intro j hj; simp only [ou_a, if_neg (show ¬ j = 14 by omega), if_neg (show ¬ j = 15 by omega), if_neg (show ¬ j = 16 by omega), if_neg (show ¬ j = 17 by omega), if_neg (show ¬ j = 18 by omega), if_neg (show ¬ j = 19 by omega)]) (Or.inl ⟨rfl, (by unfold SM; simp [p0, p1, bl, getA_set2, setA_len, ou_a])⟩) (by unfold SM; simp [p0, p1, bl, getA_set2, setA_len, ou_a])
      · have k' : ¬ 1 = c0 := fun z => k z.symm
        have z := q0 k'
        rcases hr with rfl | rfl | rfl | rfl
        all_goals
          simp [e1, e9, h0, h1, p1, p0, lp, ht, tm, w0, k, k', z, inB_iff, setA_len, getA_set2, bl, ou_same, ou_comm, setA_same, own_k24_0, own_k24_1, m25_0, m25_1u, m25_2, own_k25_0, own_k25_1, own_k25_2, own_k26_0, m26_9, own_k26_1, own_k26_2, own_k26_3, own_k27_0, own_k27_1, own_k28_0, own_k28_1, own_k28_2, own_k28_3, own_k29_0, m29_12, own_k29_1, own_k29_2, m29_63, own_k30_0, own_k30_1, own_k30_2, m31_0, m31_1u, m31_2, own_k31_0, own_k31_1, own_k31_2, nb0, nb1, ou_a, Option.toList_some, Option.toList_none, List.nil_append, List.cons_append]
          exact hQ _ (-1) (by (repeat refine LN_ou ?_ (by simp only [setA_len]; exact hL _)); exact hL) (by intro j hj; simp only [ou_a, if_neg (show ¬ j = 14 by omega), if_neg (show ¬ j = 15 by omega), if_neg (show ¬ j = 16 by omega), if_neg (show ¬ j = 17 by omega), if_neg (show ¬ j = 18 by omega), if_neg (show ¬ j = 19 by omega)]) (Or.inr ⟨k', Or.inr (Or.inr ⟨by decide, by decide, rfl⟩), (by unfold SM; simp [p0, p1, bl, getA_set2, setA_len, ou_a])⟩) (by unfold SM; simp [p0, p1, bl, getA_set2, setA_len, ou_a])
    · have y' : ¬ 1 = l0 := fun z => y z.symm
      have yl : (1 : Int32).toInt < l0.toInt := by
        rw [lt_i, i_0] at lp
        have : l0.toInt ≠ 1 := fun z => y (Int32.toInt_inj.mp z)
        rw [i_1]; omega
      by_cases k : c0 = 1
      · exfalso; subst k; rw [i_1] at *; omega
      · have k' : ¬ 1 = c0 := fun z => k z.symm
        have z := q0 k'
        rcases hr with rfl | rfl | rfl | rfl
        all_goals
          simp [e1, e9, h0, h1, p1, p0, lp, ht, tm, w0, k, k', z, y, y', inB_iff, setA_len, getA_set2, bl, ou_same, ou_comm, setA_same, own_k24_0, own_k24_1, m25_0, m25_1u, m25_2, own_k25_0, own_k25_1, own_k25_2, own_k26_0, m26_9, own_k26_1, own_k26_2, own_k26_3, own_k27_0, own_k27_1, own_k28_0, own_k28_1, own_k28_2, own_k28_3, own_k29_0, m29_12, own_k29_1, own_k29_2, m29_63, own_k30_0, own_k30_1, own_k30_2, m31_0, m31_1u, m31_2, own_k31_0, own_k31_1, own_k31_2, nb0, nb1, ou_a, Option.toList_some, Option.toList_none, List.nil_append, List.cons_append]
          exact hQ _ _ (by (repeat refine LN_ou ?_ (by simp only [setA_len]; exact hL _)); exact hL) (by intro j hj; simp only [ou_a, if_neg (show ¬ j = 14 by omega), if_neg (show ¬ j = 15 by omega), if_neg (show ¬ j = 16 by omega), if_neg (show ¬ j = 17 by omega), if_neg (show ¬ j = 18 by omega), if_neg (show ¬ j = 19 by omega)]) (Or.inr ⟨k', Or.inr (Or.inl ⟨by decide, yl, rfl⟩), (by unfold SM; simp [p0, p1, bl, getA_set2, setA_len, ou_a])⟩) (by unfold SM; simp [p0, p1, bl, getA_set2, setA_len, ou_a])
  · have g0' : ¬ 0 = g := fun z => g0 z.symm
    have eu : u.toInt = g.toInt + 1 := by rw [← hg]; exact add1_i (by omega)
    have un : ¬ u = 0 := fun z => by rw [z, i_0] at eu; omega
    by_cases y : u = l0
    · subst y
      by_cases k : u = c0
      · subst k
        rcases hr with rfl | rfl | rfl | rfl
        all_goals
          simp [e1, e9, h0, h1, p1, p0, lp, ht, tm, w0, hg, g0, g0', inB_iff, setA_len, getA_set2, bl, ou_same, ou_comm, setA_same, own_k24_0, own_k24_1, m25_0, m25_1u, m25_2, own_k25_0, own_k25_1, own_k25_2, own_k26_0, m26_9, own_k26_1, own_k26_2, own_k26_3, own_k27_0, own_k27_1, own_k28_0, own_k28_1, own_k28_2, own_k28_3, own_k29_0, m29_12, own_k29_1, own_k29_2, m29_63, own_k30_0, own_k30_1, own_k30_2, m31_0, m31_1u, m31_2, own_k31_0, own_k31_1, own_k31_2, nb0, nb1, ou_a, Option.toList_some, Option.toList_none, List.nil_append, List.cons_append]
          exact hQ _ (-1) (by (repeat refine LN_ou ?_ (by simp only [setA_len]; exact hL _)); exact hL) (by intro j hj; simp only [ou_a, if_neg (show ¬ j = 14 by omega), if_neg (show ¬ j = 15 by omega), if_neg (show ¬ j = 16 by omega), if_neg (show ¬ j = 17 by omega), if_neg (show ¬ j = 18 by omega), if_neg (show ¬ j = 19 by omega)]) (Or.inl ⟨rfl, (by unfold SM; simp [p0, p1, bl, getA_set2, setA_len, ou_a])⟩) (by unfold SM; simp [p0, p1, bl, getA_set2, setA_len, ou_a])
      · have z := q0 k
        rcases hr with rfl | rfl | rfl | rfl
        all_goals
          simp [e1, e9, h0, h1, p1, p0, lp, ht, tm, w0, hg, g0, g0', k, z, inB_iff, setA_len, getA_set2, bl, ou_same, ou_comm, setA_same, own_k24_0, own_k24_1, m25_0, m25_1u, m25_2, own_k25_0, own_k25_1, own_k25_2, own_k26_0, m26_9, own_k26_1, own_k26_2, own_k26_3, own_k27_0, own_k27_1, own_k28_0, own_k28_1, own_k28_2, own_k28_3, own_k29_0, m29_12, own_k29_1, own_k29_2, m29_63, own_k30_0, own_k30_1, own_k30_2, m31_0, m31_1u, m31_2, own_k31_0, own_k31_1, own_k31_2, nb0, nb1, ou_a, Option.toList_some, Option.toList_none, List.nil_append, List.cons_append]
          exact hQ _ (-1) (by (repeat refine LN_ou ?_ (by simp only [setA_len]; exact hL _)); exact hL) (by intro j hj; simp only [ou_a, if_neg (show ¬ j = 14 by omega), if_neg (show ¬ j = 15 by omega), if_neg (show ¬ j = 16 by omega), if_neg (show ¬ j = 17 by omega), if_neg (show ¬ j = 18 by omega), if_neg (show ¬ j = 19 by omega)]) (Or.inr ⟨k, Or.inr (Or.inr ⟨un, Int.le_refl _, rfl⟩), (by unfold SM; simp [p0, p1, bl, getA_set2, setA_len, ou_a])⟩) (by unfold SM; simp [p0, p1, bl, getA_set2, setA_len, ou_a])
    · have ul : u.toInt < l0.toInt := by
        have : u.toInt ≠ l0.toInt := fun z => y (Int32.toInt_inj.mp z)
        omega
      by_cases k : u = c0
      · subst k
        rcases hr with rfl | rfl | rfl | rfl
        all_goals
          simp [e1, e9, h0, h1, p1, p0, lp, ht, tm, w0, hg, g0, g0', y, inB_iff, setA_len, getA_set2, bl, ou_same, ou_comm, setA_same, own_k24_0, own_k24_1, m25_0, m25_1u, m25_2, own_k25_0, own_k25_1, own_k25_2, own_k26_0, m26_9, own_k26_1, own_k26_2, own_k26_3, own_k27_0, own_k27_1, own_k28_0, own_k28_1, own_k28_2, own_k28_3, own_k29_0, m29_12, own_k29_1, own_k29_2, m29_63, own_k30_0, own_k30_1, own_k30_2, m31_0, m31_1u, m31_2, own_k31_0, own_k31_1, own_k31_2, nb0, nb1, ou_a, Option.toList_some, Option.toList_none, List.nil_append, List.cons_append]
          exact hQ _ (-1) (by (repeat refine LN_ou ?_ (by simp only [setA_len]; exact hL _)); exact hL) (by intro j hj; simp only [ou_a, if_neg (show ¬ j = 14 by omega), if_neg (show ¬ j = 15 by omega), if_neg (show ¬ j = 16 by omega), if_neg (show ¬ j = 17 by omega), if_neg (show ¬ j = 18 by omega), if_neg (show ¬ j = 19 by omega)]) (Or.inl ⟨rfl, (by unfold SM; simp [p0, p1, bl, getA_set2, setA_len, ou_a])⟩) (by unfold SM; simp [p0, p1, bl, getA_set2, setA_len, ou_a])
      · have z := q0 k
        rcases hr with rfl | rfl | rfl | rfl
        all_goals
          simp [e1, e9, h0, h1, p1, p0, lp, ht, tm, w0, hg, g0, g0', y, k, z, inB_iff, setA_len, getA_set2, bl, ou_same, ou_comm, setA_same, own_k24_0, own_k24_1, m25_0, m25_1u, m25_2, own_k25_0, own_k25_1, own_k25_2, own_k26_0, m26_9, own_k26_1, own_k26_2, own_k26_3, own_k27_0, own_k27_1, own_k28_0, own_k28_1, own_k28_2, own_k28_3, own_k29_0, m29_12, own_k29_1, own_k29_2, m29_63, own_k30_0, own_k30_1, own_k30_2, m31_0, m31_1u, m31_2, own_k31_0, own_k31_1, own_k31_2, nb0, nb1, ou_a, Option.toList_some, Option.toList_none, List.nil_append, List.cons_append]
          exact hQ _ _ (by (repeat refine LN_ou ?_ (by simp only [setA_len]; exact hL _)); exact hL) (by intro j hj; simp only [ou_a, if_neg (show ¬ j = 14 by omega), if_neg (show ¬ j = 15 by omega), if_neg (show ¬ j = 16 by omega), if_neg (show ¬ j = 17 by omega), if_neg (show ¬ j = 18 by omega), if_neg (show ¬ j = 19 by omega)]) (Or.inr ⟨k, Or.inr (Or.inl ⟨un, ul, rfl⟩), (by unfold SM; simp [p0, p1, bl, getA_set2, setA_len, ou_a])⟩) (by unfold SM; simp [p0, p1, bl, getA_set2, setA_len, ou_a])
  · have g0' : ¬ 0 = g := fun z => g0 z.symm
    have eu : u.toInt = g.toInt + 1 := by rw [← hg]; exact add1_i (by omega)
    have un : ¬ u = 0 := fun z => by rw [z, i_0] at eu; omega
    have ul : l0.toInt ≤ u.toInt := by omega
    by_cases k : u = c0
    · subst k
      rcases hr with rfl | rfl | rfl | rfl
      all_goals
        simp [e1, e9, h0, h1, p1, p0, lp, ht, tm, w0, hg, g0, g0', inB_iff, setA_len, getA_set2, bl, ou_same, ou_comm, setA_same, own_k24_0, own_k24_1, m25_0, m25_1u, m25_2, own_k25_0, own_k25_1, own_k25_2, own_k26_0, m26_9, own_k26_1, own_k26_2, own_k26_3, own_k27_0, own_k27_1, own_k28_0, own_k28_1, own_k28_2, own_k28_3, own_k29_0, m29_12, own_k29_1, own_k29_2, m29_63, own_k30_0, own_k30_1, own_k30_2, m31_0, m31_1u, m31_2, own_k31_0, own_k31_1, own_k31_2, nb0, nb1, ou_a, Option.toList_some, Option.toList_none, List.nil_append, List.cons_append]
        exact hQ _ (-1) (by (repeat refine LN_ou ?_ (by simp only [setA_len]; exact hL _)); exact hL) (by intro j hj; simp only [ou_a, if_neg (show ¬ j = 14 by omega), if_neg (show ¬ j = 15 by omega), if_neg (show ¬ j = 16 by omega), if_neg (show ¬ j = 17 by omega), if_neg (show ¬ j = 18 by omega), if_neg (show ¬ j = 19 by omega)]) (Or.inl ⟨rfl, (by unfold SM; simp [p0, p1, bl, getA_set2, setA_len, ou_a])⟩) (by unfold SM; simp [p0, p1, bl, getA_set2, setA_len, ou_a])
    · have z := q0 k
      rcases hr with rfl | rfl | rfl | rfl
      all_goals
        simp [e1, e9, h0, h1, p1, p0, lp, ht, tm, w0, hg, g0, g0', k, z, inB_iff, setA_len, getA_set2, bl, ou_same, ou_comm, setA_same, own_k24_0, own_k24_1, m25_0, m25_1u, m25_2, own_k25_0, own_k25_1, own_k25_2, own_k26_0, m26_9, own_k26_1, own_k26_2, own_k26_3, own_k27_0, own_k27_1, own_k28_0, own_k28_1, own_k28_2, own_k28_3, own_k29_0, m29_12, own_k29_1, own_k29_2, m29_63, own_k30_0, own_k30_1, own_k30_2, m31_0, m31_1u, m31_2, own_k31_0, own_k31_1, own_k31_2, nb0, nb1, ou_a, Option.toList_some, Option.toList_none, List.nil_append, List.cons_append]
        exact hQ _ (-1) (by (repeat refine LN_ou ?_ (by simp only [setA_len]; exact hL _)); exact hL) (by intro j hj; simp only [ou_a, if_neg (show ¬ j = 14 by omega), if_neg (show ¬ j = 15 by omega), if_neg (show ¬ j = 16 by omega), if_neg (show ¬ j = 17 by omega), if_neg (show ¬ j = 18 by omega), if_neg (show ¬ j = 19 by omega)]) (Or.inr ⟨k, Or.inr (Or.inr ⟨un, ul, rfl⟩), (by unfold SM; simp [p0, p1, bl, getA_set2, setA_len, ou_a])⟩) (by unfold SM; simp [p0, p1, bl, getA_set2, setA_len, ou_a])
set_option maxRecDepth 1000000 in
set_option maxHeartbeats 20000000 in
theorem tkD2 {r l0 c0 d0 t b0 b3 b4 c1 d1 b1 b2 : Int32} (hL : LN A) (e1 : s 1 = 2) (e9 : s 9 = t) (h0 : S0 r l0 c0 d0 2 A) (h1 : S1 r c1 d1 A) (p1 : SM A 1 0 b1 (-1) 1 b2) (p0 : SM A 0 0 b0 (-1) b3 b4) (tm : ¬ t % 24 = 0) (hQ : Q none (put 0 [] (ou s 9 (t + 1)) A [])) : M24 0 [.val (.ref 0), .unset] [] (put 0 [] s A []) Q := by
  have bl := bL hL
  unfold S0 at h0
  unfold S1 at h1
  unfold SM at p0 p1
  simp [e1, e9, h0, h1, p1, p0, tm, inB_iff, setA_len, getA_set2, bl, ou_same, ou_comm, setA_same, own_k24_0, own_k24_1, m25_0, m25_1u, m25_2, own_k25_0, own_k25_1, own_k25_2, own_k26_0, m26_9, own_k26_1, own_k26_2, own_k26_3, own_k27_0, own_k27_1, own_k28_0, own_k28_1, own_k28_2, own_k28_3, own_k29_0, m29_12, own_k29_1, own_k29_2, m29_63, own_k30_0, own_k30_1, own_k30_2, m31_0, m31_1u, m31_2, own_k31_0, own_k31_1, own_k31_2, nb0, nb1, ou_a, Option.toList_some, Option.toList_none, List.nil_append, List.cons_append]
  exact hQ
set_option maxRecDepth 1000000 in
set_option maxHeartbeats 20000000 in
theorem tkC1 {r l0 c0 d0 g u h t w : Int32} (hr : r = 0 ∨ r = 1 ∨ r = 2 ∨ r = 3) (hL : LN A) (e1 : s 1 = 1) (e9 : s 9 = t) (h0 : S0 r l0 c0 d0 1 A) (p0 : SM A 0 1 g h 0 0) (hh : HR r l0 g h) (lp : 0 < l0) (lc : l0.toInt ≤ c0.toInt) (gc : 0 ≤ g.toInt ∧ g.toInt < c0.toInt) (c8 : c0.toInt ≤ 8) (hg : g + 1 = u) (ht : t + 1 = w) (tm : ¬ t % 24 = 0) (w0 : 0 < w) (q0 : ¬ u = c0 → ¬ d0 = w)
    (hQ : ∀ A' h', LN A' → (∀ j, j < 14 → A' j = A j) → (u = c0 ∧ SM A' 0 0 u (-1) 1 w) ∨ (¬ u = c0 ∧ HR r l0 u h' ∧ SM A' 0 1 u h' 0 0) → Q none (put 0 [] (ou s 9 w) A' [])) : M24 0 [.val (.ref 0), .unset] [] (put 0 [] s A []) Q := by
  have bl := bL hL
  unfold S0 at h0
  unfold SM at p0
  rcases hh with ⟨rfl, rfl⟩ | ⟨g0, gl, rfl⟩ | ⟨g0, gl, rfl⟩
  · have eu : u = 1 := hg.symm.trans (by decide)
    subst eu
    by_cases y : l0 = 1
    · subst y
      by_cases k : c0 = 1
      · subst k
        rcases hr with rfl | rfl | rfl | rfl
        all_goals
          simp [e1, e9, h0, p0, lp, ht, tm, w0, inB_iff, setA_len, getA_set2, bl, ou_same, ou_comm, setA_same, own_k24_0, own_k24_1, m25_0, m25_1u, m25_2, own_k25_0, own_k25_1, own_k25_2, own_k26_0, m26_9, own_k26_1, own_k26_2, own_k26_3, own_k27_0, own_k27_1, own_k28_0, own_k28_1, own_k28_2, own_k28_3, own_k29_0, m29_12, own_k29_1, own_k29_2, m29_63, own_k30_0, own_k30_1, own_k30_2, m31_0, m31_1u, m31_2, own_k31_0, own_k31_1, own_k31_2, nb0, nb1, ou_a, Option.toList_some, Option.toList_none, List.nil_append, List.cons_append]
          exact hQ _ (-1) (by (repeat refine LN_ou ?_ (by simp only [setA_len]; exact hL _)); exact hL) (by intro j hj; simp only [ou_a, if_neg (show ¬ j = 14 by omega), if_neg (show ¬ j = 15 by omega), if_neg (show ¬ j = 16 by omega), if_neg (show ¬ j = 17 by omega), if_neg (show ¬ j = 18 by omega), if_neg (show ¬ j = 19 by omega)]) (Or.inl ⟨rfl, (by unfold SM; simp [p0, bl, getA_set2, setA_len, ou_a])⟩)
      · have k' : ¬ 1 = c0 := fun z => k z.symm
        have z := q0 k'
        rcases hr with rfl | rfl | rfl | rfl
        all_goals
          simp [e1, e9, h0, p0, lp, ht, tm, w0, k, k', z, inB_iff, setA_len, getA_set2, bl, ou_same, ou_comm, setA_same, own_k24_0, own_k24_1, m25_0, m25_1u, m25_2, own_k25_0, own_k25_1, own_k25_2, own_k26_0, m26_9, own_k26_1, own_k26_2, own_k26_3, own_k27_0, own_k27_1, own_k28_0, own_k28_1, own_k28_2, own_k28_3, own_k29_0, m29_12, own_k29_1, own_k29_2, m29_63, own_k30_0, own_k30_1, own_k30_2, m31_0, m31_1u, m31_2, own_k31_0, own_k31_1, own_k31_2, nb0, nb1, ou_a, Option.toList_some, Option.toList_none, List.nil_append, List.cons_append]
          exact hQ _ (-1) (by (repeat refine LN_ou ?_ (by simp only [setA_len]; exact hL _)); exact hL) (by intro j hj; simp only [ou_a, if_neg (show ¬ j = 14 by omega), if_neg (show ¬ j = 15 by omega), if_neg (show ¬ j = 16 by omega), if_neg (show ¬ j = 17 by omega), if_neg (show ¬ j = 18 by omega), if_neg (show ¬ j = 19 by omega)]) (Or.inr ⟨k', Or.inr (Or.inr ⟨by decide, by decide, rfl⟩), (by unfold SM; simp [p0, bl, getA_set2, setA_len, ou_a])⟩)
    · have y' : ¬ 1 = l0 := fun z => y z.symm
      have yl : (1 : Int32).toInt < l0.toInt := by
        rw [lt_i, i_0] at lp
        have : l0.toInt ≠ 1 := fun z => y (Int32.toInt_inj.mp z)
        rw [i_1]; omega
      by_cases k : c0 = 1
      · exfalso; subst k; rw [i_1] at *; omega
      · have k' : ¬ 1 = c0 := fun z => k z.symm
        have z := q0 k'
        rcases hr with rfl | rfl | rfl | rfl
        all_goals
          simp [e1, e9, h0, p0, lp, ht, tm, w0, k, k', z, y, y', inB_iff, setA_len, getA_set2, bl, ou_same, ou_comm, setA_same, own_k24_0, own_k24_1, m25_0, m25_1u, m25_2, own_k25_0, own_k25_1, own_k25_2, own_k26_0, m26_9, own_k26_1, own_k26_2, own_k26_3, own_k27_0, own_k27_1, own_k28_0, own_k28_1, own_k28_2, own_k28_3, own_k29_0, m29_12, own_k29_1, own_k29_2, m29_63, own_k30_0, own_k30_1, own_k30_2, m31_0, m31_1u, m31_2, own_k31_0, own_k31_1, own_k31_2, nb0, nb1, ou_a, Option.toList_some, Option.toList_none, List.nil_append, List.cons_append]
          exact hQ _ _ (by (repeat refine LN_ou ?_ (by simp only [setA_len]; exact hL _)); exact hL) (by intro j hj; simp only [ou_a, if_neg (show ¬ j = 14 by omega), if_neg (show ¬ j = 15 by omega), if_neg (show ¬ j = 16 by omega), if_neg (show ¬ j = 17 by omega), if_neg (show ¬ j = 18 by omega), if_neg (show ¬ j = 19 by omega)]) (Or.inr ⟨k', Or.inr (Or.inl ⟨by decide, yl, rfl⟩), (by unfold SM; simp [p0, bl, getA_set2, setA_len, ou_a])⟩)
  · have g0' : ¬ 0 = g := fun z => g0 z.symm
    have eu : u.toInt = g.toInt + 1 := by rw [← hg]; exact add1_i (by omega)
    have un : ¬ u = 0 := fun z => by rw [z, i_0] at eu; omega
    by_cases y : u = l0
    · subst y
      by_cases k : u = c0
      · subst k
        rcases hr with rfl | rfl | rfl | rfl
        all_goals
          simp [e1, e9, h0, p0, lp, ht, tm, w0, hg, g0, g0', inB_iff, setA_len, getA_set2, bl, ou_same, ou_comm, setA_same, own_k24_0, own_k24_1, m25_0, m25_1u, m25_2, own_k25_0, own_k25_1, own_k25_2, own_k26_0, m26_9, own_k26_1, own_k26_2, own_k26_3, own_k27_0, own_k27_1, own_k28_0, own_k28_1, own_k28_2, own_k28_3, own_k29_0, m29_12, own_k29_1, own_k29_2, m29_63, own_k30_0, own_k30_1, own_k30_2, m31_0, m31_1u, m31_2, own_k31_0, own_k31_1, own_k31_2, nb0, nb1, ou_a, Option.toList_some, Option.toList_none, List.nil_append, List.cons_append]
          exact hQ _ (-1) (by (repeat refine LN_ou ?_ (by simp only [setA_len]; exact hL _)); exact hL) (by intro j hj; simp only [ou_a, if_neg (show ¬ j = 14 by omega), if_neg (show ¬ j = 15 by omega), if_neg (show ¬ j = 16 by omega), if_neg (show ¬ j = 17 by omega), if_neg (show ¬ j = 18 by omega), if_neg (show ¬ j = 19 by omega)]) (Or.inl ⟨rfl, (by unfold SM; simp [p0, bl, getA_set2, setA_len, ou_a])⟩)
      · have z := q0 k
        rcases hr with rfl | rfl | rfl | rfl
        all_goals
          simp [e1, e9, h0, p0, lp, ht, tm, w0, hg, g0, g0', k, z, inB_iff, setA_len, getA_set2, bl, ou_same, ou_comm, setA_same, own_k24_0, own_k24_1, m25_0, m25_1u, m25_2, own_k25_0, own_k25_1, own_k25_2, own_k26_0, m26_9, own_k26_1, own_k26_2, own_k26_3, own_k27_0, own_k27_1, own_k28_0, own_k28_1, own_k28_2, own_k28_3, own_k29_0, m29_12, own_k29_1, own_k29_2, m29_63, own_k30_0, own_k30_1, own_k30_2, m31_0, m31_1u, m31_2, own_k31_0, own_k31_1, own_k31_2, nb0, nb1, ou_a, Option.toList_some, Option.toList_none, List.nil_append, List.cons_append]
          exact hQ _ (-1) (by (repeat refine LN_ou ?_ (by simp only [setA_len]; exact hL _)); exact hL) (by intro j hj; simp only [ou_a, if_neg (show ¬ j = 14 by omega), if_neg (show ¬ j = 15 by omega), if_neg (show ¬ j = 16 by omega), if_neg (show ¬ j = 17 by omega), if_neg (show ¬ j = 18 by omega), if_neg (show ¬ j = 19 by omega)]) (Or.inr ⟨k, Or.inr (Or.inr ⟨un, Int.le_refl _, rfl⟩), (by unfold SM; simp [p0, bl, getA_set2, setA_len, ou_a])⟩)
    · have ul : u.toInt < l0.toInt := by
        have : u.toInt ≠ l0.toInt := fun z => y (Int32.toInt_inj.mp z)
        omega
      by_cases k : u = c0
      · subst k
        rcases hr with rfl | rfl | rfl | rfl
        all_goals
          simp [e1, e9, h0, p0, lp, ht, tm, w0, hg, g0, g0', y, inB_iff, setA_len, getA_set2, bl, ou_same, ou_comm, setA_same, own_k24_0, own_k24_1, m25_0, m25_1u, m25_2, own_k25_0, own_k25_1, own_k25_2, own_k26_0, m26_9, own_k26_1, own_k26_2, own_k26_3, own_k27_0, own_k27_1, own_k28_0, own_k28_1, own_k28_2, own_k28_3, own_k29_0, m29_12, own_k29_1, own_k29_2, m29_63, own_k30_0, own_k30_1, own_k30_2, m31_0, m31_1u, m31_2, own_k31_0, own_k31_1, own_k31_2, nb0, nb1, ou_a, Option.toList_some, Option.toList_none, List.nil_append, List.cons_append]
          exact hQ _ (-1) (by (repeat refine LN_ou ?_ (by simp only [setA_len]; exact hL _)); exact hL) (by intro j hj; simp only [ou_a, if_neg (show ¬ j = 14 by omega), if_neg (show ¬ j = 15 by omega), if_neg (show ¬ j = 16 by omega), if_neg (show ¬ j = 17 by omega), if_neg (show ¬ j = 18 by omega), if_neg (show ¬ j = 19 by omega)]) (Or.inl ⟨rfl, (by unfold SM; simp [p0, bl, getA_set2, setA_len, ou_a])⟩)
      · have z := q0 k
        rcases hr with rfl | rfl | rfl | rfl
        all_goals
          simp [e1, e9, h0, p0, lp, ht, tm, w0, hg, g0, g0', y, k, z, inB_iff, setA_len, getA_set2, bl, ou_same, ou_comm, setA_same, own_k24_0, own_k24_1, m25_0, m25_1u, m25_2, own_k25_0, own_k25_1, own_k25_2, own_k26_0, m26_9, own_k26_1, own_k26_2, own_k26_3, own_k27_0, own_k27_1, own_k28_0, own_k28_1, own_k28_2, own_k28_3, own_k29_0, m29_12, own_k29_1, own_k29_2, m29_63, own_k30_0, own_k30_1, own_k30_2, m31_0, m31_1u, m31_2, own_k31_0, own_k31_1, own_k31_2, nb0, nb1, ou_a, Option.toList_some, Option.toList_none, List.nil_append, List.cons_append]
          exact hQ _ _ (by (repeat refine LN_ou ?_ (by simp only [setA_len]; exact hL _)); exact hL) (by intro j hj; simp only [ou_a, if_neg (show ¬ j = 14 by omega), if_neg (show ¬ j = 15 by omega), if_neg (show ¬ j = 16 by omega), if_neg (show ¬ j = 17 by omega), if_neg (show ¬ j = 18 by omega), if_neg (show ¬ j = 19 by omega)]) (Or.inr ⟨k, Or.inr (Or.inl ⟨un, ul, rfl⟩), (by unfold SM; simp [p0, bl, getA_set2, setA_len, ou_a])⟩)
  · have g0' : ¬ 0 = g := fun z => g0 z.symm
    have eu : u.toInt = g.toInt + 1 := by rw [← hg]; exact add1_i (by omega)
    have un : ¬ u = 0 := fun z => by rw [z, i_0] at eu; omega
    have ul : l0.toInt ≤ u.toInt := by omega
    by_cases k : u = c0
    · subst k
      rcases hr with rfl | rfl | rfl | rfl
      all_goals
        simp [e1, e9, h0, p0, lp, ht, tm, w0, hg, g0, g0', inB_iff, setA_len, getA_set2, bl, ou_same, ou_comm, setA_same, own_k24_0, own_k24_1, m25_0, m25_1u, m25_2, own_k25_0, own_k25_1, own_k25_2, own_k26_0, m26_9, own_k26_1, own_k26_2, own_k26_3, own_k27_0, own_k27_1, own_k28_0, own_k28_1, own_k28_2, own_k28_3, own_k29_0, m29_12, own_k29_1, own_k29_2, m29_63, own_k30_0, own_k30_1, own_k30_2, m31_0, m31_1u, m31_2, own_k31_0, own_k31_1, own_k31_2, nb0, nb1, ou_a, Option.toList_some, Option.toList_none, List.nil_append, List.cons_append]
        exact hQ _ (-1) (by (repeat refine LN_ou ?_ (by simp only [setA_len]; exact hL _)); exact hL) (by intro j hj; simp only [ou_a, if_neg (show ¬ j = 14 by omega), if_neg (show ¬ j = 15 by omega), if_neg (show ¬ j = 16 by omega), if_neg (show ¬ j = 17 by omega), if_neg (show ¬ j = 18 by omega), if_neg (show ¬ j = 19 by omega)]) (Or.inl ⟨rfl, (by unfold SM; simp [p0, bl, getA_set2, setA_len, ou_a])⟩)
    · have z := q0 k
      rcases hr with rfl | rfl | rfl | rfl
      all_goals
        simp [e1, e9, h0, p0, lp, ht, tm, w0, hg, g0, g0', k, z, inB_iff, setA_len, getA_set2, bl, ou_same, ou_comm, setA_same, own_k24_0, own_k24_1, m25_0, m25_1u, m25_2, own_k25_0, own_k25_1, own_k25_2, own_k26_0, m26_9, own_k26_1, own_k26_2, own_k26_3, own_k27_0, own_k27_1, own_k28_0, own_k28_1, own_k28_2, own_k28_3, own_k29_0, m29_12, own_k29_1, own_k29_2, m29_63, own_k30_0, own_k30_1, own_k30_2, m31_0, m31_1u, m31_2, own_k31_0, own_k31_1, own_k31_2, nb0, nb1, ou_a, Option.toList_some, Option.toList_none, List.nil_append, List.cons_append]
        exact hQ _ (-1) (by (repeat refine LN_ou ?_ (by simp only [setA_len]; exact hL _)); exact hL) (by intro j hj; simp only [ou_a, if_neg (show ¬ j = 14 by omega), if_neg (show ¬ j = 15 by omega), if_neg (show ¬ j = 16 by omega), if_neg (show ¬ j = 17 by omega), if_neg (show ¬ j = 18 by omega), if_neg (show ¬ j = 19 by omega)]) (Or.inr ⟨k, Or.inr (Or.inr ⟨un, ul, rfl⟩), (by unfold SM; simp [p0, bl, getA_set2, setA_len, ou_a])⟩)
set_option maxRecDepth 1000000 in
set_option maxHeartbeats 20000000 in
theorem tkD1 {r l0 c0 d0 t b0 b3 b4 : Int32} (hL : LN A) (e1 : s 1 = 1) (e9 : s 9 = t) (h0 : S0 r l0 c0 d0 1 A) (p0 : SM A 0 0 b0 (-1) b3 b4) (tm : ¬ t % 24 = 0) (hQ : Q none (put 0 [] (ou s 9 (t + 1)) A [])) : M24 0 [.val (.ref 0), .unset] [] (put 0 [] s A []) Q := by
  have bl := bL hL
  unfold S0 at h0
  unfold SM at p0
  simp [e1, e9, h0, p0, tm, inB_iff, setA_len, getA_set2, bl, ou_same, ou_comm, setA_same, own_k24_0, own_k24_1, m25_0, m25_1u, m25_2, own_k25_0, own_k25_1, own_k25_2, own_k26_0, m26_9, own_k26_1, own_k26_2, own_k26_3, own_k27_0, own_k27_1, own_k28_0, own_k28_1, own_k28_2, own_k28_3, own_k29_0, m29_12, own_k29_1, own_k29_2, m29_63, own_k30_0, own_k30_1, own_k30_2, m31_0, m31_1u, m31_2, own_k31_0, own_k31_1, own_k31_2, nb0, nb1, ou_a, Option.toList_some, Option.toList_none, List.nil_append, List.cons_append]
  exact hQ
set_option maxRecDepth 1000000 in
set_option maxHeartbeats 20000000 in
theorem tkO {r l0 c0 d0 : Int32} (hr : r = 0 ∨ r = 1 ∨ r = 2 ∨ r = 3) (hL : LN A) (e1 : s 1 = 1) (e9 : s 9 = 0) (h0 : S0 r l0 c0 d0 1 A) (p0 : SM A 0 0 0 (-1) 0 0) (lp : 0 < l0) (lc : l0.toInt ≤ c0.toInt) (q0 : ¬ c0 = 1 → ¬ d0 = 1)
    (hQ : ∀ A' h', LN A' → (∀ j, j < 14 → A' j = A j) → (c0 = 1 ∧ SM A' 0 0 1 (-1) 1 1) ∨ (¬ c0 = 1 ∧ HR r l0 1 h' ∧ SM A' 0 1 1 h' 0 0) → Q none (put 0 [] (ou s 9 1) A' [])) : M24 0 [.val (.ref 0), .unset] [] (put 0 [] s A []) Q := by
  have bl := bL hL
  unfold S0 at h0
  unfold SM at p0
  by_cases y : l0 = 1
  · subst y
    by_cases k : c0 = 1
    · subst k
      rcases hr with rfl | rfl | rfl | rfl
      all_goals
        simp [e1, e9, h0, p0, lp, inB_iff, setA_len, getA_set2, bl, ou_same, ou_comm, setA_same, own_k24_0, own_k24_1, m25_0, m25_1u, m25_2, own_k25_0, own_k25_1, own_k25_2, own_k26_0, m26_9, own_k26_1, own_k26_2, own_k26_3, own_k27_0, own_k27_1, own_k28_0, own_k28_1, own_k28_2, own_k28_3, own_k29_0, m29_12, own_k29_1, own_k29_2, m29_63, own_k30_0, own_k30_1, own_k30_2, m31_0, m31_1u, m31_2, own_k31_0, own_k31_1, own_k31_2, nb0, nb1, ou_a, Option.toList_some, Option.toList_none, List.nil_append, List.cons_append]
        exact hQ _ (-1) (by (repeat refine LN_ou ?_ (by simp only [setA_len]; exact hL _)); exact hL) (by intro j hj; simp only [ou_a, if_neg (show ¬ j = 14 by omega), if_neg (show ¬ j = 15 by omega), if_neg (show ¬ j = 16 by omega), if_neg (show ¬ j = 17 by omega), if_neg (show ¬ j = 18 by omega), if_neg (show ¬ j = 19 by omega)]) (Or.inl ⟨rfl, (by unfold SM; simp [p0, bl, getA_set2, setA_len, ou_a])⟩)
    · have k' : ¬ 1 = c0 := fun z => k z.symm
      have z := q0 k
      rcases hr with rfl | rfl | rfl | rfl
      all_goals
        simp [e1, e9, h0, p0, lp, k, k', z, inB_iff, setA_len, getA_set2, bl, ou_same, ou_comm, setA_same, own_k24_0, own_k24_1, m25_0, m25_1u, m25_2, own_k25_0, own_k25_1, own_k25_2, own_k26_0, m26_9, own_k26_1, own_k26_2, own_k26_3, own_k27_0, own_k27_1, own_k28_0, own_k28_1, own_k28_2, own_k28_3, own_k29_0, m29_12, own_k29_1, own_k29_2, m29_63, own_k30_0, own_k30_1, own_k30_2, m31_0, m31_1u, m31_2, own_k31_0, own_k31_1, own_k31_2, nb0, nb1, ou_a, Option.toList_some, Option.toList_none, List.nil_append, List.cons_append]
        exact hQ _ (-1) (by (repeat refine LN_ou ?_ (by simp only [setA_len]; exact hL _)); exact hL) (by intro j hj; simp only [ou_a, if_neg (show ¬ j = 14 by omega), if_neg (show ¬ j = 15 by omega), if_neg (show ¬ j = 16 by omega), if_neg (show ¬ j = 17 by omega), if_neg (show ¬ j = 18 by omega), if_neg (show ¬ j = 19 by omega)]) (Or.inr ⟨k, Or.inr (Or.inr ⟨by decide, by decide, rfl⟩), (by unfold SM; simp [p0, bl, getA_set2, setA_len, ou_a])⟩)
  · have y' : ¬ 1 = l0 := fun z => y z.symm
    have yl : (1 : Int32).toInt < l0.toInt := by
      rw [lt_i, i_0] at lp
      have : l0.toInt ≠ 1 := fun z => y (Int32.toInt_inj.mp z)
      rw [i_1]; omega
    have k : ¬ c0 = 1 := fun z => by rw [z, i_1] at lc; rw [i_1] at yl; omega
    have k' : ¬ 1 = c0 := fun z => k z.symm
    have z := q0 k
    rcases hr with rfl | rfl | rfl | rfl
    all_goals
      simp [e1, e9, h0, p0, lp, k, k', z, y, y', inB_iff, setA_len, getA_set2, bl, ou_same, ou_comm, setA_same, own_k24_0, own_k24_1, m25_0, m25_1u, m25_2, own_k25_0, own_k25_1, own_k25_2, own_k26_0, m26_9, own_k26_1, own_k26_2, own_k26_3, own_k27_0, own_k27_1, own_k28_0, own_k28_1, own_k28_2, own_k28_3, own_k29_0, m29_12, own_k29_1, own_k29_2, m29_63, own_k30_0, own_k30_1, own_k30_2, m31_0, m31_1u, m31_2, own_k31_0, own_k31_1, own_k31_2, nb0, nb1, ou_a, Option.toList_some, Option.toList_none, List.nil_append, List.cons_append]
      exact hQ _ _ (by (repeat refine LN_ou ?_ (by simp only [setA_len]; exact hL _)); exact hL) (by intro j hj; simp only [ou_a, if_neg (show ¬ j = 14 by omega), if_neg (show ¬ j = 15 by omega), if_neg (show ¬ j = 16 by omega), if_neg (show ¬ j = 17 by omega), if_neg (show ¬ j = 18 by omega), if_neg (show ¬ j = 19 by omega)]) (Or.inr ⟨k, Or.inr (Or.inl ⟨by decide, yl, rfl⟩), (by unfold SM; simp [p0, bl, getA_set2, setA_len, ou_a])⟩)
def INV (sB : Nat → Int32) (AB : Nat → List Int32) (t : Int32) (s : Nat → Int32) (A : Nat → List Int32) : Prop := LN A ∧ (∀ i, i ≠ 9 → s i = sB i) ∧ s 9 = t ∧ (∀ j, j < 14 → A j = AB j)
theorem INV_ou {sB : Nat → Int32} {AB : Nat → List Int32} {t w : Int32} {A' : Nat → List Int32} (h : INV sB AB t s A) (hL : LN A') (fr : ∀ j, j < 14 → A' j = A j) : INV sB AB w (ou s 9 w) A' := by
  refine ⟨hL, fun i hi => ?_, by simp [ou_a], fun j hj => (fr j hj).trans (h.2.2.2 j hj)⟩
  rw [ou_a, if_neg hi]
  exact h.2.1 i hi
set_option maxRecDepth 1000000 in
set_option maxHeartbeats 20000000 in
theorem lpD2 {sB : Nat → Int32} {AB : Nat → List Int32} {r l0 c0 d0 X c1 d1 b1 b2 : Int32} (hb1 : sB 1 = 2) (hb2 : sB 2 = 24) (hS0 : S0 r l0 c0 d0 2 AB) (hS1 : S1 r c1 d1 AB) (hQ : ∀ s' A', INV sB AB 24 s' A' → SM A' 0 0 c0 (-1) 1 X → SM A' 1 0 b1 (-1) 1 b2 → Q (some (.int 24)) (put 0 [] s' A' [])) : ∀ (m : Nat) (t : Int32) (s : Nat → Int32) (A : Nat → List Int32), INV sB AB t s A → 1 ≤ t.toInt → t.toInt + m = 24 → SM A 0 0 c0 (-1) 1 X → SM A 1 0 b1 (-1) 1 b2 → M23 23 [.val (.ref 0), .val (.int 840), .val (.int 840), .val (.int t)] [] (put 0 [] s A []) Q := by
  intro m
  induction m with
  | zero =>
    intro t s A iv t1 tm p0 p1
    have et : t = 24 := Int32.toInt_inj.mp (by rw [i_24]; omega)
    subst et
    have e2 : s 2 = 24 := (iv.2.1 2 (by decide)).trans hb2
    have e9 := iv.2.2.1
    rw [m23_23]
    simp [e2, e9, own_k23_0, own_k23_1, nb0, nb1, ou_a, Option.toList_some, Option.toList_none, List.nil_append, List.cons_append]
    exact hQ _ _ iv p0 p1
  | succ m ih =>
    intro t s A iv t1 tm p0 p1
    have e1 : s 1 = 2 := (iv.2.1 1 (by decide)).trans hb1
    have e2 : s 2 = 24 := (iv.2.1 2 (by decide)).trans hb2
    have e9 := iv.2.2.1
    have hlt : t < 840 := by rw [lt_i, i_840]; omega
    have hl2 : t < 24 := by rw [lt_i, i_24]; omega
    have ea := add1_i (a := t) (by omega)
    rw [m23_23]
    simp [e2, e9, hlt, hl2, own_k23_0, own_k23_1, nb0, nb1, ou_a, Option.toList_some, Option.toList_none, List.nil_append, List.cons_append]
    refine tkD2 iv.1 e1 e9 (S0_fr iv.2.2.2 hS0) (S1_fr iv.2.2.2 hS1) p1 p0 (md24 t1 (by omega)) ?_
    exact ih (t + 1) _ A (INV_ou iv iv.1 (fun _ _ => rfl)) (by omega) (by omega) p0 p1
set_option maxRecDepth 1000000 in
set_option maxHeartbeats 20000000 in
theorem lpC2 {sB : Nat → Int32} {AB : Nat → List Int32} {r l0 c0 d0 X c1 d1 b1 b2 : Int32} (hr : r = 0 ∨ r = 1 ∨ r = 2 ∨ r = 3) (hb1 : sB 1 = 2) (hb2 : sB 2 = 24) (hS0 : S0 r l0 c0 d0 2 AB) (hS1 : S1 r c1 d1 AB) (lp : 0 < l0) (lc : l0.toInt ≤ c0.toInt) (c8 : c0.toInt ≤ 8) (x0 : c0.toInt ≤ X.toInt) (x1 : X.toInt < 24) (xd : X.toInt ≤ d0.toInt) (hQ : ∀ s' A', INV sB AB 24 s' A' → SM A' 0 0 c0 (-1) 1 X → SM A' 1 0 b1 (-1) 1 b2 → Q (some (.int 24)) (put 0 [] s' A' [])) : ∀ (m : Nat) (g t h : Int32) (s : Nat → Int32) (A : Nat → List Int32), INV sB AB t s A → 0 ≤ g.toInt → g.toInt + m + 1 = c0.toInt → 1 ≤ t.toInt → t.toInt + m + 1 = X.toInt → HR r l0 g h → SM A 0 1 g h 0 0 → SM A 1 0 b1 (-1) 1 b2 → M23 23 [.val (.ref 0), .val (.int 840), .val (.int 840), .val (.int t)] [] (put 0 [] s A []) Q := by
  intro m
  induction m with
  | zero =>
    intro g t h s A iv g0 gm t1 tm hh p0 p1
    have e1 : s 1 = 2 := (iv.2.1 1 (by decide)).trans hb1
    have e2 : s 2 = 24 := (iv.2.1 2 (by decide)).trans hb2
    have e9 := iv.2.2.1
    have hlt : t < 840 := by rw [lt_i, i_840]; omega
    have hl2 : t < 24 := by rw [lt_i, i_24]; omega
    have ea := add1_i (a := t) (by omega)
    have eg := add1_i (a := g) (by omega)
    rw [m23_23]
    simp [e2, e9, hlt, hl2, own_k23_0, own_k23_1, nb0, nb1, ou_a, Option.toList_some, Option.toList_none, List.nil_append, List.cons_append]
    refine tkC2 hr iv.1 e1 e9 (S0_fr iv.2.2.2 hS0) (S1_fr iv.2.2.2 hS1) p1 p0 hh lp lc ⟨g0, by omega⟩ c8 rfl rfl (md24 t1 (by omega)) (by rw [lt_i, i_0]; omega) (fun z => absurd (Int32.toInt_inj.mp (by omega)) z) (fun A' h' hL fr c p1' => ?_)
    have ec : g + 1 = c0 := Int32.toInt_inj.mp (by omega)
    have ex : t + 1 = X := Int32.toInt_inj.mp (by omega)
    rcases c with ⟨_, c⟩ | ⟨c, _⟩
    · rw [ec, ex] at c
      exact lpD2 hb1 hb2 hS0 hS1 hQ (24 - X.toInt).toNat (t + 1) _ A' (INV_ou iv hL fr) (by omega) (by omega) c p1'
    · exact absurd ec c
  | succ m ih =>
    intro g t h s A iv g0 gm t1 tm hh p0 p1
    have e1 : s 1 = 2 := (iv.2.1 1 (by decide)).trans hb1
    have e2 : s 2 = 24 := (iv.2.1 2 (by decide)).trans hb2
    have e9 := iv.2.2.1
    have hlt : t < 840 := by rw [lt_i, i_840]; omega
    have hl2 : t < 24 := by rw [lt_i, i_24]; omega
    have ea := add1_i (a := t) (by omega)
    have eg := add1_i (a := g) (by omega)
    rw [m23_23]
    simp [e2, e9, hlt, hl2, own_k23_0, own_k23_1, nb0, nb1, ou_a, Option.toList_some, Option.toList_none, List.nil_append, List.cons_append]
    refine tkC2 hr iv.1 e1 e9 (S0_fr iv.2.2.2 hS0) (S1_fr iv.2.2.2 hS1) p1 p0 hh lp lc ⟨g0, by omega⟩ c8 rfl rfl (md24 t1 (by omega)) (by rw [lt_i, i_0]; omega) (fun _ q => ?_) (fun A' h' hL fr c p1' => ?_)
    · rw [q] at xd
      omega
    have ec : ¬ g + 1 = c0 := fun z => by rw [z] at eg; omega
    rcases c with ⟨c, _⟩ | ⟨_, c, c'⟩
    · exact absurd c ec
    · exact ih (g + 1) (t + 1) h' _ A' (INV_ou iv hL fr) (by omega) (by omega) (by omega) (by omega) c c' p1'
set_option maxRecDepth 1000000 in
set_option maxHeartbeats 20000000 in
theorem lpD1 {sB : Nat → Int32} {AB : Nat → List Int32} {r l0 c0 d0 X : Int32} (hb1 : sB 1 = 1) (hb2 : sB 2 = 24) (hS0 : S0 r l0 c0 d0 1 AB) (hQ : ∀ s' A', INV sB AB 24 s' A' → SM A' 0 0 c0 (-1) 1 X → Q (some (.int 24)) (put 0 [] s' A' [])) : ∀ (m : Nat) (t : Int32) (s : Nat → Int32) (A : Nat → List Int32), INV sB AB t s A → 1 ≤ t.toInt → t.toInt + m = 24 → SM A 0 0 c0 (-1) 1 X → M23 23 [.val (.ref 0), .val (.int 840), .val (.int 840), .val (.int t)] [] (put 0 [] s A []) Q := by
  intro m
  induction m with
  | zero =>
    intro t s A iv t1 tm p0
    have et : t = 24 := Int32.toInt_inj.mp (by rw [i_24]; omega)
    subst et
    have e2 : s 2 = 24 := (iv.2.1 2 (by decide)).trans hb2
    have e9 := iv.2.2.1
    rw [m23_23]
    simp [e2, e9, own_k23_0, own_k23_1, nb0, nb1, ou_a, Option.toList_some, Option.toList_none, List.nil_append, List.cons_append]
    exact hQ _ _ iv p0
  | succ m ih =>
    intro t s A iv t1 tm p0
    have e1 : s 1 = 1 := (iv.2.1 1 (by decide)).trans hb1
    have e2 : s 2 = 24 := (iv.2.1 2 (by decide)).trans hb2
    have e9 := iv.2.2.1
    have hlt : t < 840 := by rw [lt_i, i_840]; omega
    have hl2 : t < 24 := by rw [lt_i, i_24]; omega
    have ea := add1_i (a := t) (by omega)
    rw [m23_23]
    simp [e2, e9, hlt, hl2, own_k23_0, own_k23_1, nb0, nb1, ou_a, Option.toList_some, Option.toList_none, List.nil_append, List.cons_append]
    refine tkD1 iv.1 e1 e9 (S0_fr iv.2.2.2 hS0) p0 (md24 t1 (by omega)) ?_
    exact ih (t + 1) _ A (INV_ou iv iv.1 (fun _ _ => rfl)) (by omega) (by omega) p0
set_option maxRecDepth 1000000 in
set_option maxHeartbeats 20000000 in
theorem lpC1 {sB : Nat → Int32} {AB : Nat → List Int32} {r l0 c0 d0 X : Int32} (hr : r = 0 ∨ r = 1 ∨ r = 2 ∨ r = 3) (hb1 : sB 1 = 1) (hb2 : sB 2 = 24) (hS0 : S0 r l0 c0 d0 1 AB) (lp : 0 < l0) (lc : l0.toInt ≤ c0.toInt) (c8 : c0.toInt ≤ 8) (x0 : c0.toInt ≤ X.toInt) (x1 : X.toInt < 24) (xd : X.toInt ≤ d0.toInt) (hQ : ∀ s' A', INV sB AB 24 s' A' → SM A' 0 0 c0 (-1) 1 X → Q (some (.int 24)) (put 0 [] s' A' [])) : ∀ (m : Nat) (g t h : Int32) (s : Nat → Int32) (A : Nat → List Int32), INV sB AB t s A → 0 ≤ g.toInt → g.toInt + m + 1 = c0.toInt → 1 ≤ t.toInt → t.toInt + m + 1 = X.toInt → HR r l0 g h → SM A 0 1 g h 0 0 → M23 23 [.val (.ref 0), .val (.int 840), .val (.int 840), .val (.int t)] [] (put 0 [] s A []) Q := by
  intro m
  induction m with
  | zero =>
    intro g t h s A iv g0 gm t1 tm hh p0
    have e1 : s 1 = 1 := (iv.2.1 1 (by decide)).trans hb1
    have e2 : s 2 = 24 := (iv.2.1 2 (by decide)).trans hb2
    have e9 := iv.2.2.1
    have hlt : t < 840 := by rw [lt_i, i_840]; omega
    have hl2 : t < 24 := by rw [lt_i, i_24]; omega
    have ea := add1_i (a := t) (by omega)
    have eg := add1_i (a := g) (by omega)
    rw [m23_23]
    simp [e2, e9, hlt, hl2, own_k23_0, own_k23_1, nb0, nb1, ou_a, Option.toList_some, Option.toList_none, List.nil_append, List.cons_append]
    refine tkC1 hr iv.1 e1 e9 (S0_fr iv.2.2.2 hS0) p0 hh lp lc ⟨g0, by omega⟩ c8 rfl rfl (md24 t1 (by omega)) (by rw [lt_i, i_0]; omega) (fun z => absurd (Int32.toInt_inj.mp (by omega)) z) (fun A' h' hL fr c => ?_)
    have ec : g + 1 = c0 := Int32.toInt_inj.mp (by omega)
    have ex : t + 1 = X := Int32.toInt_inj.mp (by omega)
    rcases c with ⟨_, c⟩ | ⟨c, _⟩
    · rw [ec, ex] at c
      exact lpD1 hb1 hb2 hS0 hQ (24 - X.toInt).toNat (t + 1) _ A' (INV_ou iv hL fr) (by omega) (by omega) c
    · exact absurd ec c
  | succ m ih =>
    intro g t h s A iv g0 gm t1 tm hh p0
    have e1 : s 1 = 1 := (iv.2.1 1 (by decide)).trans hb1
    have e2 : s 2 = 24 := (iv.2.1 2 (by decide)).trans hb2
    have e9 := iv.2.2.1
    have hlt : t < 840 := by rw [lt_i, i_840]; omega
    have hl2 : t < 24 := by rw [lt_i, i_24]; omega
    have ea := add1_i (a := t) (by omega)
    have eg := add1_i (a := g) (by omega)
    rw [m23_23]
    simp [e2, e9, hlt, hl2, own_k23_0, own_k23_1, nb0, nb1, ou_a, Option.toList_some, Option.toList_none, List.nil_append, List.cons_append]
    refine tkC1 hr iv.1 e1 e9 (S0_fr iv.2.2.2 hS0) p0 hh lp lc ⟨g0, by omega⟩ c8 rfl rfl (md24 t1 (by omega)) (by rw [lt_i, i_0]; omega) (fun _ q => ?_) (fun A' h' hL fr c => ?_)
    · rw [q] at xd
      omega
    have ec : ¬ g + 1 = c0 := fun z => by rw [z] at eg; omega
    rcases c with ⟨c, _⟩ | ⟨_, c, c'⟩
    · exact absurd c ec
    · exact ih (g + 1) (t + 1) h' _ A' (INV_ou iv hL fr) (by omega) (by omega) (by omega) (by omega) c c'
set_option maxRecDepth 1000000 in
set_option maxHeartbeats 20000000 in
theorem lpB {sB : Nat → Int32} {AB : Nat → List Int32} {r l0 c0 d0 c1 d1 X : Int32} (hr : r = 0 ∨ r = 1 ∨ r = 2 ∨ r = 3) (hb1 : sB 1 = 2) (hb2 : sB 2 = 24) (hS0 : S0 r l0 c0 d0 2 AB) (hS1 : S1 r c1 d1 AB) (lp : 0 < l0) (lc : l0.toInt ≤ c0.toInt) (c8 : c0.toInt ≤ 8) (k1 : 1 ≤ c1.toInt) (k4 : c1.toInt ≤ 4) (hX : X.toInt = c0.toInt + c1.toInt) (xd : X.toInt ≤ d0.toInt) (yd : c1.toInt + l0.toInt ≤ d1.toInt) (hQ : ∀ s' A', INV sB AB 24 s' A' → SM A' 0 0 c0 (-1) 1 X → SM A' 1 0 c1 (-1) 1 c1 → Q (some (.int 24)) (put 0 [] s' A' [])) : ∀ (m : Nat) (t : Int32) (s : Nat → Int32) (A : Nat → List Int32), INV sB AB t s A → 1 ≤ t.toInt → t.toInt + m = c1.toInt → SM A 0 1 0 (-1) 0 0 → (if t = c1 then SM A 1 0 t (-1) 1 t else SM A 1 1 t (-1) 0 0) → M23 23 [.val (.ref 0), .val (.int 840), .val (.int 840), .val (.int t)] [] (put 0 [] s A []) Q := by
  have lp' := lp
  rw [lt_i, i_0] at lp'
  intro m
  induction m with
  | zero =>
    intro t s A iv t1 tm p0 p1
    have et : t = c1 := Int32.toInt_inj.mp (by omega)
    rw [if_pos et, et] at p1
    exact lpC2 hr hb1 hb2 hS0 hS1 lp lc c8 (by omega) (by omega) xd hQ (c0.toInt - 1).toNat 0 t (-1) s A iv (by decide) (by rw [i_0]; omega) t1 (by omega) (Or.inl ⟨rfl, rfl⟩) p0 p1
  | succ m ih =>
    intro t s A iv t1 tm p0 p1
    have et : ¬ t = c1 := fun z => by rw [z] at tm; omega
    rw [if_neg et] at p1
    have e1 : s 1 = 2 := (iv.2.1 1 (by decide)).trans hb1
    have e2 : s 2 = 24 := (iv.2.1 2 (by decide)).trans hb2
    have e9 := iv.2.2.1
    have hlt : t < 840 := by rw [lt_i, i_840]; omega
    have hl2 : t < 24 := by rw [lt_i, i_24]; omega
    have ea := add1_i (a := t) (by omega)
    rw [m23_23]
    simp [e2, e9, hlt, hl2, own_k23_0, own_k23_1, nb0, nb1, ou_a, Option.toList_some, Option.toList_none, List.nil_append, List.cons_append]
    refine tkB hr iv.1 e1 e9 (S0_fr iv.2.2.2 hS0) (S1_fr iv.2.2.2 hS1) p0 p1 lp rfl (md24 t1 (by omega)) (fun z => by rw [z, i_0] at t1; omega) (by rw [lt_i, i_0]; omega) (fun q => ?_) (fun _ q => ?_) (fun A' hL fr c0' c1' => ?_)
    · rw [q] at xd
      omega
    · rw [q] at yd
      omega
    · exact ih (t + 1) _ A' (INV_ou iv hL fr) (by omega) (by omega) c0' c1'
set_option maxRecDepth 1000000 in
set_option maxHeartbeats 20000000 in
theorem rnI {sB : Nat → Int32} {AB : Nat → List Int32} {r l0 c0 d0 c1 d1 X : Int32} (hr : r = 0 ∨ r = 1 ∨ r = 2 ∨ r = 3) (hL : LN AB) (hb1 : sB 1 = 2) (hb2 : sB 2 = 24) (hb9 : sB 9 = 0) (hS0 : S0 r l0 c0 d0 2 AB) (hS1 : S1 r c1 d1 AB) (p0 : SM AB 0 0 0 (-1) 0 0) (p1 : SM AB 1 0 0 (-1) 0 0) (lp : 0 < l0) (lc : l0.toInt ≤ c0.toInt) (c8 : c0.toInt ≤ 8) (k1 : 1 ≤ c1.toInt) (k4 : c1.toInt ≤ 4) (hX : X.toInt = c0.toInt + c1.toInt) (xd : X.toInt ≤ d0.toInt) (yd : c1.toInt + l0.toInt ≤ d1.toInt) (hQ : ∀ s' A', INV sB AB 24 s' A' → SM A' 0 0 c0 (-1) 1 X → SM A' 1 0 c1 (-1) 1 c1 → Q (some (.int 24)) (put 0 [] s' A' [])) : M23 0 [.val (.ref 0), .val (.int 840), .unset, .unset] [] (put 0 [] sB AB []) Q := by
  have lp' := lp
  rw [lt_i, i_0] at lp'
  have iv : INV sB AB 0 sB AB := ⟨hL, fun _ _ => rfl, hb9, fun _ _ => rfl⟩
  simp [own_k23_0, nb0, nb1, ou_a, Option.toList_some, Option.toList_none, List.nil_append, List.cons_append]
  rw [m23_23]
  simp [hb2, hb9, own_k23_0, own_k23_1, nb0, nb1, ou_a, Option.toList_some, Option.toList_none, List.nil_append, List.cons_append]
  refine tkA hr hL hb1 hb9 hS0 hS1 p0 p1 lp (fun q => ?_) (fun _ q => ?_) (fun A' hL' fr q0 q1 => ?_)
  · rw [q, i_1] at xd
    omega
  · rw [q, i_1] at yd
    omega
  · refine lpB hr hb1 hb2 hS0 hS1 lp lc c8 k1 k4 hX xd yd hQ (c1.toInt - 1).toNat 1 _ A' (INV_ou iv hL' fr) (by decide) (by rw [i_1]; omega) q0 ?_
    by_cases z : c1 = 1
    · rw [if_pos z] at q1
      rw [if_pos z.symm]
      exact q1
    · rw [if_neg z] at q1
      rw [if_neg (fun y => z y.symm)]
      exact q1
set_option maxRecDepth 1000000 in
set_option maxHeartbeats 20000000 in
theorem rnO {sB : Nat → Int32} {AB : Nat → List Int32} {r l0 c0 d0 : Int32} (hr : r = 0 ∨ r = 1 ∨ r = 2 ∨ r = 3) (hL : LN AB) (hb1 : sB 1 = 1) (hb2 : sB 2 = 24) (hb9 : sB 9 = 0) (hS0 : S0 r l0 c0 d0 1 AB) (p0 : SM AB 0 0 0 (-1) 0 0) (lp : 0 < l0) (lc : l0.toInt ≤ c0.toInt) (c8 : c0.toInt ≤ 8) (xd : c0.toInt ≤ d0.toInt) (hQ : ∀ s' A', INV sB AB 24 s' A' → SM A' 0 0 c0 (-1) 1 c0 → Q (some (.int 24)) (put 0 [] s' A' [])) : M23 0 [.val (.ref 0), .val (.int 840), .unset, .unset] [] (put 0 [] sB AB []) Q := by
  have lp' := lp
  rw [lt_i, i_0] at lp'
  have iv : INV sB AB 0 sB AB := ⟨hL, fun _ _ => rfl, hb9, fun _ _ => rfl⟩
  simp [own_k23_0, nb0, nb1, ou_a, Option.toList_some, Option.toList_none, List.nil_append, List.cons_append]
  rw [m23_23]
  simp [hb2, hb9, own_k23_0, own_k23_1, nb0, nb1, ou_a, Option.toList_some, Option.toList_none, List.nil_append, List.cons_append]
  refine tkO hr hL hb1 hb9 hS0 p0 lp lc (fun z q => ?_) (fun A' h' hL' fr c => ?_)
  · have : c0.toInt ≠ 1 := fun y => z (Int32.toInt_inj.mp y)
    rw [q, i_1] at xd
    omega
  · rcases c with ⟨c, c'⟩ | ⟨c, c', c''⟩
    · subst c
      exact lpD1 hb1 hb2 hS0 hQ 23 1 _ A' (INV_ou iv hL' fr) (by decide) (by decide) c'
    · have : c0.toInt ≠ 1 := fun y => c (Int32.toInt_inj.mp y)
      exact lpC1 hr hb1 hb2 hS0 lp lc c8 (Int.le_refl _) (by omega) xd hQ (c0.toInt - 2).toNat 1 1 h' _ A' (INV_ou iv hL' fr) (by decide) (by rw [i_1]; omega) (by decide) (by rw [i_1]; omega) c' c''
set_option maxRecDepth 1000000 in
set_option maxHeartbeats 20000000 in
theorem own_mid0 {c0 l0 c1 d0 d1 i0 i1 i2 i3 i4 i5 : Int32} (k1 : 1 ≤ c0.toInt) (k2 : c0.toInt ≤ 8) (k3 : 1 ≤ l0.toInt) (k4 : l0.toInt ≤ c0.toInt) (k5 : 1 ≤ c1.toInt) (k6 : c1.toInt ≤ 4) (k7 : c0.toInt ≤ d0.toInt) (k8 : d0.toInt ≤ 15) (k9 : c1.toInt ≤ d1.toInt) (k10 : d1.toInt ≤ 15)
    (hQ : ∀ s' A', LN A' → Q (some (.int 1)) (put 0 [] s' A' [])) : M38 60 [.val (.int i0), .val (.int i1), .val (.int i2), .val (.int i3), .val (.int i4), .val (.int i5), .val (.int c0), .val (.int l0), .val (.int c1), .val (.int d0), .val (.int d1), .val (.int 0), .unset, .unset, .unset, .unset] [] [] Q := by
  have es : (c0 + c1).toInt = c0.toInt + c1.toInt := add_i (by omega) (by omega)
  have el : (c1 + l0).toInt = c1.toInt + l0.toInt := add_i (by omega) (by omega)
  have a1 : ¬ d0 < 1 := by rw [lt_i, i_1]; omega
  have a2 : ¬ 24 < d0 := by rw [lt_i, i_24]; omega
  have a3 : ¬ c0 < 1 := by rw [lt_i, i_1]; omega
  have a4 : ¬ d0 < c0 := by rw [lt_i]; omega
  have a5 : ¬ l0 < 1 := by rw [lt_i, i_1]; omega
  have a6 : ¬ c0 < 0 := by rw [lt_i, i_0]; omega
  have a7 : ¬ c0 < l0 := by rw [lt_i]; omega
  have a8 : 0 < l0 := by rw [lt_i, i_0]; omega
  have b1 : ¬ d1 < 1 := by rw [lt_i, i_1]; omega
  have b2 : ¬ 24 < d1 := by rw [lt_i, i_24]; omega
  have b3 : ¬ c1 < 1 := by rw [lt_i, i_1]; omega
  have b4 : ¬ d1 < c1 := by rw [lt_i]; omega
  have b5 : ¬ c1 < 0 := by rw [lt_i, i_0]; omega
  have n3 : ¬ c0 + c1 < 0 := by rw [lt_i, i_0, es]; omega
  have n4 : ¬ c1 + l0 < 0 := by rw [lt_i, i_0, el]; omega
  have v1 := dv k1 (by omega)
  have v2 := dv (x := c0 + c1) (by omega) (by omega)
  have n2 : ¬ c1 = 0 := fun z => by rw [z, i_0] at k5; omega
  have n1 : ¬ c0 + c1 = c0 := fun z => by rw [z] at es; omega
  rw [m38_60, m38_63, m38_64, m38_66, own_ctor0 rfl]
  simp (maxSteps := 10000000) [A0l_8, own_k0_0, own_k0_1, own_k0_2, own_k0_3, own_k0_4, m0_205, own_k0_5, own_k2_0, own_k2_1, own_k2_2, own_k2_3, m2_111, own_k2_4, m3_0, m3_1u, m3_2, own_k3_0, own_k4_0, own_k4_1, own_k4_2, own_k4_3, m5_0, m5_1u, m5_2, own_k5_0, own_k5_1, own_k5_2, own_k6_0, own_k6_1, own_k6_2, own_k6_3, own_k6_4, own_k7_0, own_k7_1, own_k8_0, m8_8, own_k8_1, own_k8_2, own_k9_0, own_k9_1, m9_42, own_k9_2, own_k9_3, own_k10_0, m10_7, own_k10_1, own_k10_2, own_k10_3, m11_0, m11_1u, m11_2, own_k11_0, m11_12, own_k11_1, own_k11_2, own_k12_0, m12_13, own_k12_1, m12_37, own_k12_2, own_k12_3, own_k13_0, m13_17, own_k13_1, own_k13_2, own_k14_0, m14_14, own_k14_1, own_k14_2, own_k14_3, m15_0, m15_1u, m15_2, own_k15_0, own_k15_1, m15_39, own_k15_2, own_k16_0, own_k17_0, own_k18_0, own_k19_0, own_k20_0, own_k21_0, own_k22_0, own_k32_0, own_k33_0, own_k34_0, m34_13, own_k34_1, own_k34_2, own_k35_0, own_k36_0, own_k38_0, own_k38_1, own_k38_2, own_k38_3, own_k38_4, own_k38_5, own_k38_6, own_k38_7, own_k38_8, own_k38_9, own_k38_10, own_k38_11, own_k38_12, own_k38_13, own_k38_14, own_k38_15, m38_496, m38_497, nb0, nb1, ou_a, Option.toList_some, Option.toList_none, List.nil_append, List.cons_append, inB_iff, setA_len, getA_set2, ou_same, ou_comm, setA_same]
  refine rs (by (repeat refine LN_ou ?_ (by simp only [setA_len])); exact fun _ => rfl) (fun A1 hL1 _ _ _ => ?_)
  have bl1 := bL hL1
  simp (maxSteps := 10000000) [a1, a2, a3, a4, a5, a6, a7, a8, b1, b2, b3, b4, b5, n3, n4, v1, v2, n1, n2, bl1, own_k0_0, own_k0_1, own_k0_2, own_k0_3, own_k0_4, m0_205, own_k0_5, own_k2_0, own_k2_1, own_k2_2, own_k2_3, m2_111, own_k2_4, m3_0, m3_1u, m3_2, own_k3_0, own_k4_0, own_k4_1, own_k4_2, own_k4_3, m5_0, m5_1u, m5_2, own_k5_0, own_k5_1, own_k5_2, own_k6_0, own_k6_1, own_k6_2, own_k6_3, own_k6_4, own_k7_0, own_k7_1, own_k8_0, m8_8, own_k8_1, own_k8_2, own_k9_0, own_k9_1, m9_42, own_k9_2, own_k9_3, own_k10_0, m10_7, own_k10_1, own_k10_2, own_k10_3, m11_0, m11_1u, m11_2, own_k11_0, m11_12, own_k11_1, own_k11_2, own_k12_0, m12_13, own_k12_1, m12_37, own_k12_2, own_k12_3, own_k13_0, m13_17, own_k13_1, own_k13_2, own_k14_0, m14_14, own_k14_1, own_k14_2, own_k14_3, m15_0, m15_1u, m15_2, own_k15_0, own_k15_1, m15_39, own_k15_2, own_k16_0, own_k17_0, own_k18_0, own_k19_0, own_k20_0, own_k21_0, own_k22_0, own_k32_0, own_k33_0, own_k34_0, m34_13, own_k34_1, own_k34_2, own_k35_0, own_k36_0, own_k38_0, own_k38_1, own_k38_2, own_k38_3, own_k38_4, own_k38_5, own_k38_6, own_k38_7, own_k38_8, own_k38_9, own_k38_10, own_k38_11, own_k38_12, own_k38_13, own_k38_14, own_k38_15, m38_496, m38_497, nb0, nb1, ou_a, Option.toList_some, Option.toList_none, List.nil_append, List.cons_append, inB_iff, setA_len, getA_set2, ou_same, ou_comm, setA_same]
  refine rs (by (repeat refine LN_ou ?_ (by simp only [setA_len]; exact hL1 _)); exact hL1) (fun A2 hL2 fr2 sm0 sm1 => ?_)
  have bl2 := bL hL2
  have F2 : getA (A2 0) 0 = 24 ∧ getA (A2 1) 0 = d0 ∧ getA (A2 2) 0 = c0 ∧ getA (A2 3) 0 = 1 ∧ getA (A2 4) 0 = 0 ∧ getA (A2 4) 1 = 0 ∧ getA (A2 4) 2 = 0 ∧ getA (A2 4) 3 = 0 ∧ getA (A2 5) 0 = l0 ∧ getA (A2 5) 1 = 0 ∧ getA (A2 5) 2 = 0 ∧ getA (A2 5) 3 = 0 ∧ getA (A2 6) 0 = c0 ∧ getA (A2 7) 0 = 0 ∧ getA (A2 8) 0 = 1 ∧ getA (A2 8) 1 = 0 ∧ getA (A2 8) 2 = 0 ∧ getA (A2 8) 3 = 0 := by
    simp [fr2 0 (by decide), fr2 1 (by decide), fr2 2 (by decide), fr2 3 (by decide), fr2 4 (by decide), fr2 5 (by decide), fr2 6 (by decide), fr2 7 (by decide), fr2 8 (by decide), ou_a, getA_set2, setA_len, bl1]
  clear fr2 bl1
  by_cases x0 : d0 < c0 + c1
  · have x1 : True := trivial
    simp (maxSteps := 10000000) [x0, x1, a1, a2, a3, a4, a5, a6, a7, a8, b1, b2, b3, b4, b5, n3, n4, v1, v2, n1, n2, bl2, F2, own_k0_0, own_k0_1, own_k0_2, own_k0_3, own_k0_4, m0_205, own_k0_5, own_k2_0, own_k2_1, own_k2_2, own_k2_3, m2_111, own_k2_4, m3_0, m3_1u, m3_2, own_k3_0, own_k4_0, own_k4_1, own_k4_2, own_k4_3, m5_0, m5_1u, m5_2, own_k5_0, own_k5_1, own_k5_2, own_k6_0, own_k6_1, own_k6_2, own_k6_3, own_k6_4, own_k7_0, own_k7_1, own_k8_0, m8_8, own_k8_1, own_k8_2, own_k9_0, own_k9_1, m9_42, own_k9_2, own_k9_3, own_k10_0, m10_7, own_k10_1, own_k10_2, own_k10_3, m11_0, m11_1u, m11_2, own_k11_0, m11_12, own_k11_1, own_k11_2, own_k12_0, m12_13, own_k12_1, m12_37, own_k12_2, own_k12_3, own_k13_0, m13_17, own_k13_1, own_k13_2, own_k14_0, m14_14, own_k14_1, own_k14_2, own_k14_3, m15_0, m15_1u, m15_2, own_k15_0, own_k15_1, m15_39, own_k15_2, own_k16_0, own_k17_0, own_k18_0, own_k19_0, own_k20_0, own_k21_0, own_k22_0, own_k32_0, own_k33_0, own_k34_0, m34_13, own_k34_1, own_k34_2, own_k35_0, own_k36_0, own_k38_0, own_k38_1, own_k38_2, own_k38_3, own_k38_4, own_k38_5, own_k38_6, own_k38_7, own_k38_8, own_k38_9, own_k38_10, own_k38_11, own_k38_12, own_k38_13, own_k38_14, own_k38_15, m38_496, m38_497, nb0, nb1, ou_a, Option.toList_some, Option.toList_none, List.nil_append, List.cons_append, inB_iff, setA_len, getA_set2, ou_same, ou_comm, setA_same]
    refine rnO (r := 0) (l0 := l0) (c0 := c0) (d0 := d0) (by decide) ?_ ?_ ?_ ?_ ?_ ?_ a8 (by omega) (by omega) (by omega) (fun s' A' iv q0 => ?_)
    rotate_left 6
    · have t1 := iv.2.1 1 (by decide)
      have t9 := iv.2.2.1
      have t10 := iv.2.1 10 (by decide)
      have bl4 := bL iv.1
      unfold SM at q0
      simp (maxSteps := 10000000) [t1, t9, t10, q0, bl4, own_k0_0, own_k0_1, own_k0_2, own_k0_3, own_k0_4, m0_205, own_k0_5, own_k2_0, own_k2_1, own_k2_2, own_k2_3, m2_111, own_k2_4, m3_0, m3_1u, m3_2, own_k3_0, own_k4_0, own_k4_1, own_k4_2, own_k4_3, m5_0, m5_1u, m5_2, own_k5_0, own_k5_1, own_k5_2, own_k6_0, own_k6_1, own_k6_2, own_k6_3, own_k6_4, own_k7_0, own_k7_1, own_k8_0, m8_8, own_k8_1, own_k8_2, own_k9_0, own_k9_1, m9_42, own_k9_2, own_k9_3, own_k10_0, m10_7, own_k10_1, own_k10_2, own_k10_3, m11_0, m11_1u, m11_2, own_k11_0, m11_12, own_k11_1, own_k11_2, own_k12_0, m12_13, own_k12_1, m12_37, own_k12_2, own_k12_3, own_k13_0, m13_17, own_k13_1, own_k13_2, own_k14_0, m14_14, own_k14_1, own_k14_2, own_k14_3, m15_0, m15_1u, m15_2, own_k15_0, own_k15_1, m15_39, own_k15_2, own_k16_0, own_k17_0, own_k18_0, own_k19_0, own_k20_0, own_k21_0, own_k22_0, own_k32_0, own_k33_0, own_k34_0, m34_13, own_k34_1, own_k34_2, own_k35_0, own_k36_0, own_k38_0, own_k38_1, own_k38_2, own_k38_3, own_k38_4, own_k38_5, own_k38_6, own_k38_7, own_k38_8, own_k38_9, own_k38_10, own_k38_11, own_k38_12, own_k38_13, own_k38_14, own_k38_15, m38_496, m38_497, nb0, nb1, ou_a, Option.toList_some, Option.toList_none, List.nil_append, List.cons_append, inB_iff, setA_len, getA_set2, ou_same, ou_comm, setA_same, lt_irr]
      exact hQ _ _ iv.1
    · exact (by (repeat refine LN_ou ?_ (by simp only [setA_len]; exact hL2 _)); exact hL2)
    · simp [ou_a]
    · simp [ou_a]
    · simp [ou_a]
    · unfold S0
      simp [bl2, F2, getA_set2, setA_len, ou_a]
    · unfold SM at *
      simp [sm0, ou_a]
  by_cases x1 : d1 < c1 + l0
  · simp (maxSteps := 10000000) [x0, x1, a1, a2, a3, a4, a5, a6, a7, a8, b1, b2, b3, b4, b5, n3, n4, v1, v2, n1, n2, bl2, F2, own_k0_0, own_k0_1, own_k0_2, own_k0_3, own_k0_4, m0_205, own_k0_5, own_k2_0, own_k2_1, own_k2_2, own_k2_3, m2_111, own_k2_4, m3_0, m3_1u, m3_2, own_k3_0, own_k4_0, own_k4_1, own_k4_2, own_k4_3, m5_0, m5_1u, m5_2, own_k5_0, own_k5_1, own_k5_2, own_k6_0, own_k6_1, own_k6_2, own_k6_3, own_k6_4, own_k7_0, own_k7_1, own_k8_0, m8_8, own_k8_1, own_k8_2, own_k9_0, own_k9_1, m9_42, own_k9_2, own_k9_3, own_k10_0, m10_7, own_k10_1, own_k10_2, own_k10_3, m11_0, m11_1u, m11_2, own_k11_0, m11_12, own_k11_1, own_k11_2, own_k12_0, m12_13, own_k12_1, m12_37, own_k12_2, own_k12_3, own_k13_0, m13_17, own_k13_1, own_k13_2, own_k14_0, m14_14, own_k14_1, own_k14_2, own_k14_3, m15_0, m15_1u, m15_2, own_k15_0, own_k15_1, m15_39, own_k15_2, own_k16_0, own_k17_0, own_k18_0, own_k19_0, own_k20_0, own_k21_0, own_k22_0, own_k32_0, own_k33_0, own_k34_0, m34_13, own_k34_1, own_k34_2, own_k35_0, own_k36_0, own_k38_0, own_k38_1, own_k38_2, own_k38_3, own_k38_4, own_k38_5, own_k38_6, own_k38_7, own_k38_8, own_k38_9, own_k38_10, own_k38_11, own_k38_12, own_k38_13, own_k38_14, own_k38_15, m38_496, m38_497, nb0, nb1, ou_a, Option.toList_some, Option.toList_none, List.nil_append, List.cons_append, inB_iff, setA_len, getA_set2, ou_same, ou_comm, setA_same]
    refine rnO (r := 0) (l0 := l0) (c0 := c0) (d0 := d0) (by decide) ?_ ?_ ?_ ?_ ?_ ?_ a8 (by omega) (by omega) (by omega) (fun s' A' iv q0 => ?_)
    rotate_left 6
    · have t1 := iv.2.1 1 (by decide)
      have t9 := iv.2.2.1
      have t10 := iv.2.1 10 (by decide)
      have bl4 := bL iv.1
      unfold SM at q0
      simp (maxSteps := 10000000) [t1, t9, t10, q0, bl4, own_k0_0, own_k0_1, own_k0_2, own_k0_3, own_k0_4, m0_205, own_k0_5, own_k2_0, own_k2_1, own_k2_2, own_k2_3, m2_111, own_k2_4, m3_0, m3_1u, m3_2, own_k3_0, own_k4_0, own_k4_1, own_k4_2, own_k4_3, m5_0, m5_1u, m5_2, own_k5_0, own_k5_1, own_k5_2, own_k6_0, own_k6_1, own_k6_2, own_k6_3, own_k6_4, own_k7_0, own_k7_1, own_k8_0, m8_8, own_k8_1, own_k8_2, own_k9_0, own_k9_1, m9_42, own_k9_2, own_k9_3, own_k10_0, m10_7, own_k10_1, own_k10_2, own_k10_3, m11_0, m11_1u, m11_2, own_k11_0, m11_12, own_k11_1, own_k11_2, own_k12_0, m12_13, own_k12_1, m12_37, own_k12_2, own_k12_3, own_k13_0, m13_17, own_k13_1, own_k13_2, own_k14_0, m14_14, own_k14_1, own_k14_2, own_k14_3, m15_0, m15_1u, m15_2, own_k15_0, own_k15_1, m15_39, own_k15_2, own_k16_0, own_k17_0, own_k18_0, own_k19_0, own_k20_0, own_k21_0, own_k22_0, own_k32_0, own_k33_0, own_k34_0, m34_13, own_k34_1, own_k34_2, own_k35_0, own_k36_0, own_k38_0, own_k38_1, own_k38_2, own_k38_3, own_k38_4, own_k38_5, own_k38_6, own_k38_7, own_k38_8, own_k38_9, own_k38_10, own_k38_11, own_k38_12, own_k38_13, own_k38_14, own_k38_15, m38_496, m38_497, nb0, nb1, ou_a, Option.toList_some, Option.toList_none, List.nil_append, List.cons_append, inB_iff, setA_len, getA_set2, ou_same, ou_comm, setA_same, lt_irr]
      exact hQ _ _ iv.1
    · exact (by (repeat refine LN_ou ?_ (by simp only [setA_len]; exact hL2 _)); exact hL2)
    · simp [ou_a]
    · simp [ou_a]
    · simp [ou_a]
    · unfold S0
      simp [bl2, F2, getA_set2, setA_len, ou_a]
    · unfold SM at *
      simp [sm0, ou_a]
  simp (maxSteps := 10000000) [x0, x1, a1, a2, a3, a4, a5, a6, a7, a8, b1, b2, b3, b4, b5, n3, n4, v1, v2, n1, n2, bl2, F2, own_k0_0, own_k0_1, own_k0_2, own_k0_3, own_k0_4, m0_205, own_k0_5, own_k2_0, own_k2_1, own_k2_2, own_k2_3, m2_111, own_k2_4, m3_0, m3_1u, m3_2, own_k3_0, own_k4_0, own_k4_1, own_k4_2, own_k4_3, m5_0, m5_1u, m5_2, own_k5_0, own_k5_1, own_k5_2, own_k6_0, own_k6_1, own_k6_2, own_k6_3, own_k6_4, own_k7_0, own_k7_1, own_k8_0, m8_8, own_k8_1, own_k8_2, own_k9_0, own_k9_1, m9_42, own_k9_2, own_k9_3, own_k10_0, m10_7, own_k10_1, own_k10_2, own_k10_3, m11_0, m11_1u, m11_2, own_k11_0, m11_12, own_k11_1, own_k11_2, own_k12_0, m12_13, own_k12_1, m12_37, own_k12_2, own_k12_3, own_k13_0, m13_17, own_k13_1, own_k13_2, own_k14_0, m14_14, own_k14_1, own_k14_2, own_k14_3, m15_0, m15_1u, m15_2, own_k15_0, own_k15_1, m15_39, own_k15_2, own_k16_0, own_k17_0, own_k18_0, own_k19_0, own_k20_0, own_k21_0, own_k22_0, own_k32_0, own_k33_0, own_k34_0, m34_13, own_k34_1, own_k34_2, own_k35_0, own_k36_0, own_k38_0, own_k38_1, own_k38_2, own_k38_3, own_k38_4, own_k38_5, own_k38_6, own_k38_7, own_k38_8, own_k38_9, own_k38_10, own_k38_11, own_k38_12, own_k38_13, own_k38_14, own_k38_15, m38_496, m38_497, nb0, nb1, ou_a, Option.toList_some, Option.toList_none, List.nil_append, List.cons_append, inB_iff, setA_len, getA_set2, ou_same, ou_comm, setA_same]
  refine rs (by (repeat refine LN_ou ?_ (by simp only [setA_len]; exact hL2 _)); exact hL2) (fun A3 hL3 fr3 sm0' sm1' => ?_)
  have bl3 := bL hL3
  have F3 : getA (A3 0) 0 = 24 ∧ getA (A3 0) 1 = 24 ∧ getA (A3 1) 0 = d0 ∧ getA (A3 1) 1 = d1 ∧ getA (A3 2) 0 = c0 ∧ getA (A3 2) 1 = c1 ∧ getA (A3 3) 0 = 1 ∧ getA (A3 3) 1 = 2 ∧ getA (A3 4) 0 = 0 ∧ getA (A3 4) 1 = 0 ∧ getA (A3 4) 2 = 0 ∧ getA (A3 4) 3 = 0 ∧ getA (A3 4) 4 = 0 ∧ getA (A3 4) 5 = 0 ∧ getA (A3 4) 6 = 0 ∧ getA (A3 4) 7 = 0 ∧ getA (A3 5) 0 = l0 ∧ getA (A3 5) 1 = 0 ∧ getA (A3 5) 2 = 0 ∧ getA (A3 5) 3 = 0 ∧ getA (A3 5) 4 = 1 ∧ getA (A3 5) 5 = 0 ∧ getA (A3 5) 6 = 0 ∧ getA (A3 5) 7 = 0 ∧ getA (A3 6) 0 = c0 + c1 ∧ getA (A3 6) 1 = c1 + l0 ∧ getA (A3 7) 0 = 0 ∧ getA (A3 7) 1 = l0 ∧ getA (A3 8) 0 = 2 ∧ getA (A3 8) 1 = 0 ∧ getA (A3 8) 2 = 0 ∧ getA (A3 8) 3 = 0 := by
    simp [fr3 0 (by decide), fr3 1 (by decide), fr3 2 (by decide), fr3 3 (by decide), fr3 4 (by decide), fr3 5 (by decide), fr3 6 (by decide), fr3 7 (by decide), fr3 8 (by decide), F2, ou_a, getA_set2, setA_len, bl2]
  clear fr3 bl2 F2
  simp (maxSteps := 10000000) [x0, x1, a1, a2, a3, a4, a5, a6, a7, a8, b1, b2, b3, b4, b5, n3, n4, v1, v2, n1, n2, bl3, F3, own_k0_0, own_k0_1, own_k0_2, own_k0_3, own_k0_4, m0_205, own_k0_5, own_k2_0, own_k2_1, own_k2_2, own_k2_3, m2_111, own_k2_4, m3_0, m3_1u, m3_2, own_k3_0, own_k4_0, own_k4_1, own_k4_2, own_k4_3, m5_0, m5_1u, m5_2, own_k5_0, own_k5_1, own_k5_2, own_k6_0, own_k6_1, own_k6_2, own_k6_3, own_k6_4, own_k7_0, own_k7_1, own_k8_0, m8_8, own_k8_1, own_k8_2, own_k9_0, own_k9_1, m9_42, own_k9_2, own_k9_3, own_k10_0, m10_7, own_k10_1, own_k10_2, own_k10_3, m11_0, m11_1u, m11_2, own_k11_0, m11_12, own_k11_1, own_k11_2, own_k12_0, m12_13, own_k12_1, m12_37, own_k12_2, own_k12_3, own_k13_0, m13_17, own_k13_1, own_k13_2, own_k14_0, m14_14, own_k14_1, own_k14_2, own_k14_3, m15_0, m15_1u, m15_2, own_k15_0, own_k15_1, m15_39, own_k15_2, own_k16_0, own_k17_0, own_k18_0, own_k19_0, own_k20_0, own_k21_0, own_k22_0, own_k32_0, own_k33_0, own_k34_0, m34_13, own_k34_1, own_k34_2, own_k35_0, own_k36_0, own_k38_0, own_k38_1, own_k38_2, own_k38_3, own_k38_4, own_k38_5, own_k38_6, own_k38_7, own_k38_8, own_k38_9, own_k38_10, own_k38_11, own_k38_12, own_k38_13, own_k38_14, own_k38_15, m38_496, m38_497, nb0, nb1, ou_a, Option.toList_some, Option.toList_none, List.nil_append, List.cons_append, inB_iff, setA_len, getA_set2, ou_same, ou_comm, setA_same]
  have x0' := x0
  have x1' := x1
  rw [lt_i, es] at x0'
  rw [lt_i, el] at x1'
  refine rnI (r := 0) (l0 := l0) (c0 := c0) (d0 := d0) (c1 := c1) (d1 := d1) (X := c0 + c1) (by decide) hL3 ?_ ?_ ?_ ?_ ?_ sm0' sm1' a8 k4 k2 k5 k6 es (by omega) (by omega) (fun s' A' iv q0 q1 => ?_)
  rotate_left 5
  · have t1 := iv.2.1 1 (by decide)
    have t9 := iv.2.2.1
    have t10 := iv.2.1 10 (by decide)
    have bl4 := bL iv.1
    unfold SM at q0 q1
    simp (maxSteps := 10000000) [t1, t9, t10, q0, q1, bl4, own_k0_0, own_k0_1, own_k0_2, own_k0_3, own_k0_4, m0_205, own_k0_5, own_k2_0, own_k2_1, own_k2_2, own_k2_3, m2_111, own_k2_4, m3_0, m3_1u, m3_2, own_k3_0, own_k4_0, own_k4_1, own_k4_2, own_k4_3, m5_0, m5_1u, m5_2, own_k5_0, own_k5_1, own_k5_2, own_k6_0, own_k6_1, own_k6_2, own_k6_3, own_k6_4, own_k7_0, own_k7_1, own_k8_0, m8_8, own_k8_1, own_k8_2, own_k9_0, own_k9_1, m9_42, own_k9_2, own_k9_3, own_k10_0, m10_7, own_k10_1, own_k10_2, own_k10_3, m11_0, m11_1u, m11_2, own_k11_0, m11_12, own_k11_1, own_k11_2, own_k12_0, m12_13, own_k12_1, m12_37, own_k12_2, own_k12_3, own_k13_0, m13_17, own_k13_1, own_k13_2, own_k14_0, m14_14, own_k14_1, own_k14_2, own_k14_3, m15_0, m15_1u, m15_2, own_k15_0, own_k15_1, m15_39, own_k15_2, own_k16_0, own_k17_0, own_k18_0, own_k19_0, own_k20_0, own_k21_0, own_k22_0, own_k32_0, own_k33_0, own_k34_0, m34_13, own_k34_1, own_k34_2, own_k35_0, own_k36_0, own_k38_0, own_k38_1, own_k38_2, own_k38_3, own_k38_4, own_k38_5, own_k38_6, own_k38_7, own_k38_8, own_k38_9, own_k38_10, own_k38_11, own_k38_12, own_k38_13, own_k38_14, own_k38_15, m38_496, m38_497, nb0, nb1, ou_a, Option.toList_some, Option.toList_none, List.nil_append, List.cons_append, inB_iff, setA_len, getA_set2, ou_same, ou_comm, setA_same, lt_irr]
    exact hQ _ _ iv.1
  · simp [ou_a]
  · simp [ou_a]
  · simp [ou_a]
  · unfold S0
    simp [F3]
  · unfold S1
    simp [F3]
set_option maxRecDepth 1000000 in
set_option maxHeartbeats 20000000 in
theorem own_mid1 {c0 l0 c1 d0 d1 i0 i1 i2 i3 i4 i5 : Int32} (k1 : 1 ≤ c0.toInt) (k2 : c0.toInt ≤ 8) (k3 : 1 ≤ l0.toInt) (k4 : l0.toInt ≤ c0.toInt) (k5 : 1 ≤ c1.toInt) (k6 : c1.toInt ≤ 4) (k7 : c0.toInt ≤ d0.toInt) (k8 : d0.toInt ≤ 15) (k9 : c1.toInt ≤ d1.toInt) (k10 : d1.toInt ≤ 15)
    (hQ : ∀ s' A', LN A' → Q (some (.int 1)) (put 0 [] s' A' [])) : M38 60 [.val (.int i0), .val (.int i1), .val (.int i2), .val (.int i3), .val (.int i4), .val (.int i5), .val (.int c0), .val (.int l0), .val (.int c1), .val (.int d0), .val (.int d1), .val (.int 1), .unset, .unset, .unset, .unset] [] [] Q := by
  have es : (c0 + c1).toInt = c0.toInt + c1.toInt := add_i (by omega) (by omega)
  have el : (c1 + l0).toInt = c1.toInt + l0.toInt := add_i (by omega) (by omega)
  have a1 : ¬ d0 < 1 := by rw [lt_i, i_1]; omega
  have a2 : ¬ 24 < d0 := by rw [lt_i, i_24]; omega
  have a3 : ¬ c0 < 1 := by rw [lt_i, i_1]; omega
  have a4 : ¬ d0 < c0 := by rw [lt_i]; omega
  have a5 : ¬ l0 < 1 := by rw [lt_i, i_1]; omega
  have a6 : ¬ c0 < 0 := by rw [lt_i, i_0]; omega
  have a7 : ¬ c0 < l0 := by rw [lt_i]; omega
  have a8 : 0 < l0 := by rw [lt_i, i_0]; omega
  have b1 : ¬ d1 < 1 := by rw [lt_i, i_1]; omega
  have b2 : ¬ 24 < d1 := by rw [lt_i, i_24]; omega
  have b3 : ¬ c1 < 1 := by rw [lt_i, i_1]; omega
  have b4 : ¬ d1 < c1 := by rw [lt_i]; omega
  have b5 : ¬ c1 < 0 := by rw [lt_i, i_0]; omega
  have n3 : ¬ c0 + c1 < 0 := by rw [lt_i, i_0, es]; omega
  have n4 : ¬ c1 + l0 < 0 := by rw [lt_i, i_0, el]; omega
  have v1 := dv k1 (by omega)
  have v2 := dv (x := c0 + c1) (by omega) (by omega)
  have n2 : ¬ c1 = 0 := fun z => by rw [z, i_0] at k5; omega
  have n1 : ¬ c0 + c1 = c0 := fun z => by rw [z] at es; omega
  rw [m38_60, m38_63, m38_64, m38_66, own_ctor0 rfl]
  simp (maxSteps := 10000000) [A0l_8, own_k0_0, own_k0_1, own_k0_2, own_k0_3, own_k0_4, m0_205, own_k0_5, own_k2_0, own_k2_1, own_k2_2, own_k2_3, m2_111, own_k2_4, m3_0, m3_1u, m3_2, own_k3_0, own_k4_0, own_k4_1, own_k4_2, own_k4_3, m5_0, m5_1u, m5_2, own_k5_0, own_k5_1, own_k5_2, own_k6_0, own_k6_1, own_k6_2, own_k6_3, own_k6_4, own_k7_0, own_k7_1, own_k8_0, m8_8, own_k8_1, own_k8_2, own_k9_0, own_k9_1, m9_42, own_k9_2, own_k9_3, own_k10_0, m10_7, own_k10_1, own_k10_2, own_k10_3, m11_0, m11_1u, m11_2, own_k11_0, m11_12, own_k11_1, own_k11_2, own_k12_0, m12_13, own_k12_1, m12_37, own_k12_2, own_k12_3, own_k13_0, m13_17, own_k13_1, own_k13_2, own_k14_0, m14_14, own_k14_1, own_k14_2, own_k14_3, m15_0, m15_1u, m15_2, own_k15_0, own_k15_1, m15_39, own_k15_2, own_k16_0, own_k17_0, own_k18_0, own_k19_0, own_k20_0, own_k21_0, own_k22_0, own_k32_0, own_k33_0, own_k34_0, m34_13, own_k34_1, own_k34_2, own_k35_0, own_k36_0, own_k38_0, own_k38_1, own_k38_2, own_k38_3, own_k38_4, own_k38_5, own_k38_6, own_k38_7, own_k38_8, own_k38_9, own_k38_10, own_k38_11, own_k38_12, own_k38_13, own_k38_14, own_k38_15, m38_496, m38_497, nb0, nb1, ou_a, Option.toList_some, Option.toList_none, List.nil_append, List.cons_append, inB_iff, setA_len, getA_set2, ou_same, ou_comm, setA_same]
  refine rs (by (repeat refine LN_ou ?_ (by simp only [setA_len])); exact fun _ => rfl) (fun A1 hL1 _ _ _ => ?_)
  have bl1 := bL hL1
  simp (maxSteps := 10000000) [a1, a2, a3, a4, a5, a6, a7, a8, b1, b2, b3, b4, b5, n3, n4, v1, v2, n1, n2, bl1, own_k0_0, own_k0_1, own_k0_2, own_k0_3, own_k0_4, m0_205, own_k0_5, own_k2_0, own_k2_1, own_k2_2, own_k2_3, m2_111, own_k2_4, m3_0, m3_1u, m3_2, own_k3_0, own_k4_0, own_k4_1, own_k4_2, own_k4_3, m5_0, m5_1u, m5_2, own_k5_0, own_k5_1, own_k5_2, own_k6_0, own_k6_1, own_k6_2, own_k6_3, own_k6_4, own_k7_0, own_k7_1, own_k8_0, m8_8, own_k8_1, own_k8_2, own_k9_0, own_k9_1, m9_42, own_k9_2, own_k9_3, own_k10_0, m10_7, own_k10_1, own_k10_2, own_k10_3, m11_0, m11_1u, m11_2, own_k11_0, m11_12, own_k11_1, own_k11_2, own_k12_0, m12_13, own_k12_1, m12_37, own_k12_2, own_k12_3, own_k13_0, m13_17, own_k13_1, own_k13_2, own_k14_0, m14_14, own_k14_1, own_k14_2, own_k14_3, m15_0, m15_1u, m15_2, own_k15_0, own_k15_1, m15_39, own_k15_2, own_k16_0, own_k17_0, own_k18_0, own_k19_0, own_k20_0, own_k21_0, own_k22_0, own_k32_0, own_k33_0, own_k34_0, m34_13, own_k34_1, own_k34_2, own_k35_0, own_k36_0, own_k38_0, own_k38_1, own_k38_2, own_k38_3, own_k38_4, own_k38_5, own_k38_6, own_k38_7, own_k38_8, own_k38_9, own_k38_10, own_k38_11, own_k38_12, own_k38_13, own_k38_14, own_k38_15, m38_496, m38_497, nb0, nb1, ou_a, Option.toList_some, Option.toList_none, List.nil_append, List.cons_append, inB_iff, setA_len, getA_set2, ou_same, ou_comm, setA_same]
  refine rs (by (repeat refine LN_ou ?_ (by simp only [setA_len]; exact hL1 _)); exact hL1) (fun A2 hL2 fr2 sm0 sm1 => ?_)
  have bl2 := bL hL2
  have F2 : getA (A2 0) 0 = 24 ∧ getA (A2 1) 0 = d0 ∧ getA (A2 2) 0 = c0 ∧ getA (A2 3) 0 = 1 ∧ getA (A2 4) 0 = 0 ∧ getA (A2 4) 1 = 0 ∧ getA (A2 4) 2 = 0 ∧ getA (A2 4) 3 = 0 ∧ getA (A2 5) 0 = 0 ∧ getA (A2 5) 1 = l0 ∧ getA (A2 5) 2 = 0 ∧ getA (A2 5) 3 = 0 ∧ getA (A2 6) 0 = c0 ∧ getA (A2 7) 0 = 0 ∧ getA (A2 8) 0 = 0 ∧ getA (A2 8) 1 = 1 ∧ getA (A2 8) 2 = 0 ∧ getA (A2 8) 3 = 0 := by
    simp [fr2 0 (by decide), fr2 1 (by decide), fr2 2 (by decide), fr2 3 (by decide), fr2 4 (by decide), fr2 5 (by decide), fr2 6 (by decide), fr2 7 (by decide), fr2 8 (by decide), ou_a, getA_set2, setA_len, bl1]
  clear fr2 bl1
  by_cases x0 : d0 < c0 + c1
  · have x1 : True := trivial
    simp (maxSteps := 10000000) [x0, x1, a1, a2, a3, a4, a5, a6, a7, a8, b1, b2, b3, b4, b5, n3, n4, v1, v2, n1, n2, bl2, F2, own_k0_0, own_k0_1, own_k0_2, own_k0_3, own_k0_4, m0_205, own_k0_5, own_k2_0, own_k2_1, own_k2_2, own_k2_3, m2_111, own_k2_4, m3_0, m3_1u, m3_2, own_k3_0, own_k4_0, own_k4_1, own_k4_2, own_k4_3, m5_0, m5_1u, m5_2, own_k5_0, own_k5_1, own_k5_2, own_k6_0, own_k6_1, own_k6_2, own_k6_3, own_k6_4, own_k7_0, own_k7_1, own_k8_0, m8_8, own_k8_1, own_k8_2, own_k9_0, own_k9_1, m9_42, own_k9_2, own_k9_3, own_k10_0, m10_7, own_k10_1, own_k10_2, own_k10_3, m11_0, m11_1u, m11_2, own_k11_0, m11_12, own_k11_1, own_k11_2, own_k12_0, m12_13, own_k12_1, m12_37, own_k12_2, own_k12_3, own_k13_0, m13_17, own_k13_1, own_k13_2, own_k14_0, m14_14, own_k14_1, own_k14_2, own_k14_3, m15_0, m15_1u, m15_2, own_k15_0, own_k15_1, m15_39, own_k15_2, own_k16_0, own_k17_0, own_k18_0, own_k19_0, own_k20_0, own_k21_0, own_k22_0, own_k32_0, own_k33_0, own_k34_0, m34_13, own_k34_1, own_k34_2, own_k35_0, own_k36_0, own_k38_0, own_k38_1, own_k38_2, own_k38_3, own_k38_4, own_k38_5, own_k38_6, own_k38_7, own_k38_8, own_k38_9, own_k38_10, own_k38_11, own_k38_12, own_k38_13, own_k38_14, own_k38_15, m38_496, m38_497, nb0, nb1, ou_a, Option.toList_some, Option.toList_none, List.nil_append, List.cons_append, inB_iff, setA_len, getA_set2, ou_same, ou_comm, setA_same]
    refine rnO (r := 1) (l0 := l0) (c0 := c0) (d0 := d0) (by decide) ?_ ?_ ?_ ?_ ?_ ?_ a8 (by omega) (by omega) (by omega) (fun s' A' iv q0 => ?_)
    rotate_left 6
    · have t1 := iv.2.1 1 (by decide)
      have t9 := iv.2.2.1
      have t10 := iv.2.1 10 (by decide)
      have bl4 := bL iv.1
      unfold SM at q0
      simp (maxSteps := 10000000) [t1, t9, t10, q0, bl4, own_k0_0, own_k0_1, own_k0_2, own_k0_3, own_k0_4, m0_205, own_k0_5, own_k2_0, own_k2_1, own_k2_2, own_k2_3, m2_111, own_k2_4, m3_0, m3_1u, m3_2, own_k3_0, own_k4_0, own_k4_1, own_k4_2, own_k4_3, m5_0, m5_1u, m5_2, own_k5_0, own_k5_1, own_k5_2, own_k6_0, own_k6_1, own_k6_2, own_k6_3, own_k6_4, own_k7_0, own_k7_1, own_k8_0, m8_8, own_k8_1, own_k8_2, own_k9_0, own_k9_1, m9_42, own_k9_2, own_k9_3, own_k10_0, m10_7, own_k10_1, own_k10_2, own_k10_3, m11_0, m11_1u, m11_2, own_k11_0, m11_12, own_k11_1, own_k11_2, own_k12_0, m12_13, own_k12_1, m12_37, own_k12_2, own_k12_3, own_k13_0, m13_17, own_k13_1, own_k13_2, own_k14_0, m14_14, own_k14_1, own_k14_2, own_k14_3, m15_0, m15_1u, m15_2, own_k15_0, own_k15_1, m15_39, own_k15_2, own_k16_0, own_k17_0, own_k18_0, own_k19_0, own_k20_0, own_k21_0, own_k22_0, own_k32_0, own_k33_0, own_k34_0, m34_13, own_k34_1, own_k34_2, own_k35_0, own_k36_0, own_k38_0, own_k38_1, own_k38_2, own_k38_3, own_k38_4, own_k38_5, own_k38_6, own_k38_7, own_k38_8, own_k38_9, own_k38_10, own_k38_11, own_k38_12, own_k38_13, own_k38_14, own_k38_15, m38_496, m38_497, nb0, nb1, ou_a, Option.toList_some, Option.toList_none, List.nil_append, List.cons_append, inB_iff, setA_len, getA_set2, ou_same, ou_comm, setA_same, lt_irr]
      exact hQ _ _ iv.1
    · exact (by (repeat refine LN_ou ?_ (by simp only [setA_len]; exact hL2 _)); exact hL2)
    · simp [ou_a]
    · simp [ou_a]
    · simp [ou_a]
    · unfold S0
      simp [bl2, F2, getA_set2, setA_len, ou_a]
    · unfold SM at *
      simp [sm0, ou_a]
  by_cases x1 : d1 < c1 + l0
  · simp (maxSteps := 10000000) [x0, x1, a1, a2, a3, a4, a5, a6, a7, a8, b1, b2, b3, b4, b5, n3, n4, v1, v2, n1, n2, bl2, F2, own_k0_0, own_k0_1, own_k0_2, own_k0_3, own_k0_4, m0_205, own_k0_5, own_k2_0, own_k2_1, own_k2_2, own_k2_3, m2_111, own_k2_4, m3_0, m3_1u, m3_2, own_k3_0, own_k4_0, own_k4_1, own_k4_2, own_k4_3, m5_0, m5_1u, m5_2, own_k5_0, own_k5_1, own_k5_2, own_k6_0, own_k6_1, own_k6_2, own_k6_3, own_k6_4, own_k7_0, own_k7_1, own_k8_0, m8_8, own_k8_1, own_k8_2, own_k9_0, own_k9_1, m9_42, own_k9_2, own_k9_3, own_k10_0, m10_7, own_k10_1, own_k10_2, own_k10_3, m11_0, m11_1u, m11_2, own_k11_0, m11_12, own_k11_1, own_k11_2, own_k12_0, m12_13, own_k12_1, m12_37, own_k12_2, own_k12_3, own_k13_0, m13_17, own_k13_1, own_k13_2, own_k14_0, m14_14, own_k14_1, own_k14_2, own_k14_3, m15_0, m15_1u, m15_2, own_k15_0, own_k15_1, m15_39, own_k15_2, own_k16_0, own_k17_0, own_k18_0, own_k19_0, own_k20_0, own_k21_0, own_k22_0, own_k32_0, own_k33_0, own_k34_0, m34_13, own_k34_1, own_k34_2, own_k35_0, own_k36_0, own_k38_0, own_k38_1, own_k38_2, own_k38_3, own_k38_4, own_k38_5, own_k38_6, own_k38_7, own_k38_8, own_k38_9, own_k38_10, own_k38_11, own_k38_12, own_k38_13, own_k38_14, own_k38_15, m38_496, m38_497, nb0, nb1, ou_a, Option.toList_some, Option.toList_none, List.nil_append, List.cons_append, inB_iff, setA_len, getA_set2, ou_same, ou_comm, setA_same]
    refine rnO (r := 1) (l0 := l0) (c0 := c0) (d0 := d0) (by decide) ?_ ?_ ?_ ?_ ?_ ?_ a8 (by omega) (by omega) (by omega) (fun s' A' iv q0 => ?_)
    rotate_left 6
    · have t1 := iv.2.1 1 (by decide)
      have t9 := iv.2.2.1
      have t10 := iv.2.1 10 (by decide)
      have bl4 := bL iv.1
      unfold SM at q0
      simp (maxSteps := 10000000) [t1, t9, t10, q0, bl4, own_k0_0, own_k0_1, own_k0_2, own_k0_3, own_k0_4, m0_205, own_k0_5, own_k2_0, own_k2_1, own_k2_2, own_k2_3, m2_111, own_k2_4, m3_0, m3_1u, m3_2, own_k3_0, own_k4_0, own_k4_1, own_k4_2, own_k4_3, m5_0, m5_1u, m5_2, own_k5_0, own_k5_1, own_k5_2, own_k6_0, own_k6_1, own_k6_2, own_k6_3, own_k6_4, own_k7_0, own_k7_1, own_k8_0, m8_8, own_k8_1, own_k8_2, own_k9_0, own_k9_1, m9_42, own_k9_2, own_k9_3, own_k10_0, m10_7, own_k10_1, own_k10_2, own_k10_3, m11_0, m11_1u, m11_2, own_k11_0, m11_12, own_k11_1, own_k11_2, own_k12_0, m12_13, own_k12_1, m12_37, own_k12_2, own_k12_3, own_k13_0, m13_17, own_k13_1, own_k13_2, own_k14_0, m14_14, own_k14_1, own_k14_2, own_k14_3, m15_0, m15_1u, m15_2, own_k15_0, own_k15_1, m15_39, own_k15_2, own_k16_0, own_k17_0, own_k18_0, own_k19_0, own_k20_0, own_k21_0, own_k22_0, own_k32_0, own_k33_0, own_k34_0, m34_13, own_k34_1, own_k34_2, own_k35_0, own_k36_0, own_k38_0, own_k38_1, own_k38_2, own_k38_3, own_k38_4, own_k38_5, own_k38_6, own_k38_7, own_k38_8, own_k38_9, own_k38_10, own_k38_11, own_k38_12, own_k38_13, own_k38_14, own_k38_15, m38_496, m38_497, nb0, nb1, ou_a, Option.toList_some, Option.toList_none, List.nil_append, List.cons_append, inB_iff, setA_len, getA_set2, ou_same, ou_comm, setA_same, lt_irr]
      exact hQ _ _ iv.1
    · exact (by (repeat refine LN_ou ?_ (by simp only [setA_len]; exact hL2 _)); exact hL2)
    · simp [ou_a]
    · simp [ou_a]
    · simp [ou_a]
    · unfold S0
      simp [bl2, F2, getA_set2, setA_len, ou_a]
    · unfold SM at *
      simp [sm0, ou_a]
  simp (maxSteps := 10000000) [x0, x1, a1, a2, a3, a4, a5, a6, a7, a8, b1, b2, b3, b4, b5, n3, n4, v1, v2, n1, n2, bl2, F2, own_k0_0, own_k0_1, own_k0_2, own_k0_3, own_k0_4, m0_205, own_k0_5, own_k2_0, own_k2_1, own_k2_2, own_k2_3, m2_111, own_k2_4, m3_0, m3_1u, m3_2, own_k3_0, own_k4_0, own_k4_1, own_k4_2, own_k4_3, m5_0, m5_1u, m5_2, own_k5_0, own_k5_1, own_k5_2, own_k6_0, own_k6_1, own_k6_2, own_k6_3, own_k6_4, own_k7_0, own_k7_1, own_k8_0, m8_8, own_k8_1, own_k8_2, own_k9_0, own_k9_1, m9_42, own_k9_2, own_k9_3, own_k10_0, m10_7, own_k10_1, own_k10_2, own_k10_3, m11_0, m11_1u, m11_2, own_k11_0, m11_12, own_k11_1, own_k11_2, own_k12_0, m12_13, own_k12_1, m12_37, own_k12_2, own_k12_3, own_k13_0, m13_17, own_k13_1, own_k13_2, own_k14_0, m14_14, own_k14_1, own_k14_2, own_k14_3, m15_0, m15_1u, m15_2, own_k15_0, own_k15_1, m15_39, own_k15_2, own_k16_0, own_k17_0, own_k18_0, own_k19_0, own_k20_0, own_k21_0, own_k22_0, own_k32_0, own_k33_0, own_k34_0, m34_13, own_k34_1, own_k34_2, own_k35_0, own_k36_0, own_k38_0, own_k38_1, own_k38_2, own_k38_3, own_k38_4, own_k38_5, own_k38_6, own_k38_7, own_k38_8, own_k38_9, own_k38_10, own_k38_11, own_k38_12, own_k38_13, own_k38_14, own_k38_15, m38_496, m38_497, nb0, nb1, ou_a, Option.toList_some, Option.toList_none, List.nil_append, List.cons_append, inB_iff, setA_len, getA_set2, ou_same, ou_comm, setA_same]
  refine rs (by (repeat refine LN_ou ?_ (by simp only [setA_len]; exact hL2 _)); exact hL2) (fun A3 hL3 fr3 sm0' sm1' => ?_)
  have bl3 := bL hL3
  have F3 : getA (A3 0) 0 = 24 ∧ getA (A3 0) 1 = 24 ∧ getA (A3 1) 0 = d0 ∧ getA (A3 1) 1 = d1 ∧ getA (A3 2) 0 = c0 ∧ getA (A3 2) 1 = c1 ∧ getA (A3 3) 0 = 1 ∧ getA (A3 3) 1 = 2 ∧ getA (A3 4) 0 = 0 ∧ getA (A3 4) 1 = 0 ∧ getA (A3 4) 2 = 0 ∧ getA (A3 4) 3 = 0 ∧ getA (A3 4) 4 = 0 ∧ getA (A3 4) 5 = 0 ∧ getA (A3 4) 6 = 0 ∧ getA (A3 4) 7 = 0 ∧ getA (A3 5) 0 = 0 ∧ getA (A3 5) 1 = l0 ∧ getA (A3 5) 2 = 0 ∧ getA (A3 5) 3 = 0 ∧ getA (A3 5) 4 = 0 ∧ getA (A3 5) 5 = 1 ∧ getA (A3 5) 6 = 0 ∧ getA (A3 5) 7 = 0 ∧ getA (A3 6) 0 = c0 + c1 ∧ getA (A3 6) 1 = c1 + l0 ∧ getA (A3 7) 0 = 0 ∧ getA (A3 7) 1 = l0 ∧ getA (A3 8) 0 = 0 ∧ getA (A3 8) 1 = 2 ∧ getA (A3 8) 2 = 0 ∧ getA (A3 8) 3 = 0 := by
    simp [fr3 0 (by decide), fr3 1 (by decide), fr3 2 (by decide), fr3 3 (by decide), fr3 4 (by decide), fr3 5 (by decide), fr3 6 (by decide), fr3 7 (by decide), fr3 8 (by decide), F2, ou_a, getA_set2, setA_len, bl2]
  clear fr3 bl2 F2
  simp (maxSteps := 10000000) [x0, x1, a1, a2, a3, a4, a5, a6, a7, a8, b1, b2, b3, b4, b5, n3, n4, v1, v2, n1, n2, bl3, F3, own_k0_0, own_k0_1, own_k0_2, own_k0_3, own_k0_4, m0_205, own_k0_5, own_k2_0, own_k2_1, own_k2_2, own_k2_3, m2_111, own_k2_4, m3_0, m3_1u, m3_2, own_k3_0, own_k4_0, own_k4_1, own_k4_2, own_k4_3, m5_0, m5_1u, m5_2, own_k5_0, own_k5_1, own_k5_2, own_k6_0, own_k6_1, own_k6_2, own_k6_3, own_k6_4, own_k7_0, own_k7_1, own_k8_0, m8_8, own_k8_1, own_k8_2, own_k9_0, own_k9_1, m9_42, own_k9_2, own_k9_3, own_k10_0, m10_7, own_k10_1, own_k10_2, own_k10_3, m11_0, m11_1u, m11_2, own_k11_0, m11_12, own_k11_1, own_k11_2, own_k12_0, m12_13, own_k12_1, m12_37, own_k12_2, own_k12_3, own_k13_0, m13_17, own_k13_1, own_k13_2, own_k14_0, m14_14, own_k14_1, own_k14_2, own_k14_3, m15_0, m15_1u, m15_2, own_k15_0, own_k15_1, m15_39, own_k15_2, own_k16_0, own_k17_0, own_k18_0, own_k19_0, own_k20_0, own_k21_0, own_k22_0, own_k32_0, own_k33_0, own_k34_0, m34_13, own_k34_1, own_k34_2, own_k35_0, own_k36_0, own_k38_0, own_k38_1, own_k38_2, own_k38_3, own_k38_4, own_k38_5, own_k38_6, own_k38_7, own_k38_8, own_k38_9, own_k38_10, own_k38_11, own_k38_12, own_k38_13, own_k38_14, own_k38_15, m38_496, m38_497, nb0, nb1, ou_a, Option.toList_some, Option.toList_none, List.nil_append, List.cons_append, inB_iff, setA_len, getA_set2, ou_same, ou_comm, setA_same]
  have x0' := x0
  have x1' := x1
  rw [lt_i, es] at x0'
  rw [lt_i, el] at x1'
  refine rnI (r := 1) (l0 := l0) (c0 := c0) (d0 := d0) (c1 := c1) (d1 := d1) (X := c0 + c1) (by decide) hL3 ?_ ?_ ?_ ?_ ?_ sm0' sm1' a8 k4 k2 k5 k6 es (by omega) (by omega) (fun s' A' iv q0 q1 => ?_)
  rotate_left 5
  · have t1 := iv.2.1 1 (by decide)
    have t9 := iv.2.2.1
    have t10 := iv.2.1 10 (by decide)
    have bl4 := bL iv.1
    unfold SM at q0 q1
    simp (maxSteps := 10000000) [t1, t9, t10, q0, q1, bl4, own_k0_0, own_k0_1, own_k0_2, own_k0_3, own_k0_4, m0_205, own_k0_5, own_k2_0, own_k2_1, own_k2_2, own_k2_3, m2_111, own_k2_4, m3_0, m3_1u, m3_2, own_k3_0, own_k4_0, own_k4_1, own_k4_2, own_k4_3, m5_0, m5_1u, m5_2, own_k5_0, own_k5_1, own_k5_2, own_k6_0, own_k6_1, own_k6_2, own_k6_3, own_k6_4, own_k7_0, own_k7_1, own_k8_0, m8_8, own_k8_1, own_k8_2, own_k9_0, own_k9_1, m9_42, own_k9_2, own_k9_3, own_k10_0, m10_7, own_k10_1, own_k10_2, own_k10_3, m11_0, m11_1u, m11_2, own_k11_0, m11_12, own_k11_1, own_k11_2, own_k12_0, m12_13, own_k12_1, m12_37, own_k12_2, own_k12_3, own_k13_0, m13_17, own_k13_1, own_k13_2, own_k14_0, m14_14, own_k14_1, own_k14_2, own_k14_3, m15_0, m15_1u, m15_2, own_k15_0, own_k15_1, m15_39, own_k15_2, own_k16_0, own_k17_0, own_k18_0, own_k19_0, own_k20_0, own_k21_0, own_k22_0, own_k32_0, own_k33_0, own_k34_0, m34_13, own_k34_1, own_k34_2, own_k35_0, own_k36_0, own_k38_0, own_k38_1, own_k38_2, own_k38_3, own_k38_4, own_k38_5, own_k38_6, own_k38_7, own_k38_8, own_k38_9, own_k38_10, own_k38_11, own_k38_12, own_k38_13, own_k38_14, own_k38_15, m38_496, m38_497, nb0, nb1, ou_a, Option.toList_some, Option.toList_none, List.nil_append, List.cons_append, inB_iff, setA_len, getA_set2, ou_same, ou_comm, setA_same, lt_irr]
    exact hQ _ _ iv.1
  · simp [ou_a]
  · simp [ou_a]
  · simp [ou_a]
  · unfold S0
    simp [F3]
  · unfold S1
    simp [F3]
set_option maxRecDepth 1000000 in
set_option maxHeartbeats 20000000 in
theorem own_mid2 {c0 l0 c1 d0 d1 i0 i1 i2 i3 i4 i5 : Int32} (k1 : 1 ≤ c0.toInt) (k2 : c0.toInt ≤ 8) (k3 : 1 ≤ l0.toInt) (k4 : l0.toInt ≤ c0.toInt) (k5 : 1 ≤ c1.toInt) (k6 : c1.toInt ≤ 4) (k7 : c0.toInt ≤ d0.toInt) (k8 : d0.toInt ≤ 15) (k9 : c1.toInt ≤ d1.toInt) (k10 : d1.toInt ≤ 15)
    (hQ : ∀ s' A', LN A' → Q (some (.int 1)) (put 0 [] s' A' [])) : M38 60 [.val (.int i0), .val (.int i1), .val (.int i2), .val (.int i3), .val (.int i4), .val (.int i5), .val (.int c0), .val (.int l0), .val (.int c1), .val (.int d0), .val (.int d1), .val (.int 2), .unset, .unset, .unset, .unset] [] [] Q := by
  have es : (c0 + c1).toInt = c0.toInt + c1.toInt := add_i (by omega) (by omega)
  have el : (c1 + l0).toInt = c1.toInt + l0.toInt := add_i (by omega) (by omega)
  have a1 : ¬ d0 < 1 := by rw [lt_i, i_1]; omega
  have a2 : ¬ 24 < d0 := by rw [lt_i, i_24]; omega
  have a3 : ¬ c0 < 1 := by rw [lt_i, i_1]; omega
  have a4 : ¬ d0 < c0 := by rw [lt_i]; omega
  have a5 : ¬ l0 < 1 := by rw [lt_i, i_1]; omega
  have a6 : ¬ c0 < 0 := by rw [lt_i, i_0]; omega
  have a7 : ¬ c0 < l0 := by rw [lt_i]; omega
  have a8 : 0 < l0 := by rw [lt_i, i_0]; omega
  have b1 : ¬ d1 < 1 := by rw [lt_i, i_1]; omega
  have b2 : ¬ 24 < d1 := by rw [lt_i, i_24]; omega
  have b3 : ¬ c1 < 1 := by rw [lt_i, i_1]; omega
  have b4 : ¬ d1 < c1 := by rw [lt_i]; omega
  have b5 : ¬ c1 < 0 := by rw [lt_i, i_0]; omega
  have n3 : ¬ c0 + c1 < 0 := by rw [lt_i, i_0, es]; omega
  have n4 : ¬ c1 + l0 < 0 := by rw [lt_i, i_0, el]; omega
  have v1 := dv k1 (by omega)
  have v2 := dv (x := c0 + c1) (by omega) (by omega)
  have n2 : ¬ c1 = 0 := fun z => by rw [z, i_0] at k5; omega
  have n1 : ¬ c0 + c1 = c0 := fun z => by rw [z] at es; omega
  rw [m38_60, m38_63, m38_64, m38_66, own_ctor0 rfl]
  simp (maxSteps := 10000000) [A0l_8, own_k0_0, own_k0_1, own_k0_2, own_k0_3, own_k0_4, m0_205, own_k0_5, own_k2_0, own_k2_1, own_k2_2, own_k2_3, m2_111, own_k2_4, m3_0, m3_1u, m3_2, own_k3_0, own_k4_0, own_k4_1, own_k4_2, own_k4_3, m5_0, m5_1u, m5_2, own_k5_0, own_k5_1, own_k5_2, own_k6_0, own_k6_1, own_k6_2, own_k6_3, own_k6_4, own_k7_0, own_k7_1, own_k8_0, m8_8, own_k8_1, own_k8_2, own_k9_0, own_k9_1, m9_42, own_k9_2, own_k9_3, own_k10_0, m10_7, own_k10_1, own_k10_2, own_k10_3, m11_0, m11_1u, m11_2, own_k11_0, m11_12, own_k11_1, own_k11_2, own_k12_0, m12_13, own_k12_1, m12_37, own_k12_2, own_k12_3, own_k13_0, m13_17, own_k13_1, own_k13_2, own_k14_0, m14_14, own_k14_1, own_k14_2, own_k14_3, m15_0, m15_1u, m15_2, own_k15_0, own_k15_1, m15_39, own_k15_2, own_k16_0, own_k17_0, own_k18_0, own_k19_0, own_k20_0, own_k21_0, own_k22_0, own_k32_0, own_k33_0, own_k34_0, m34_13, own_k34_1, own_k34_2, own_k35_0, own_k36_0, own_k38_0, own_k38_1, own_k38_2, own_k38_3, own_k38_4, own_k38_5, own_k38_6, own_k38_7, own_k38_8, own_k38_9, own_k38_10, own_k38_11, own_k38_12, own_k38_13, own_k38_14, own_k38_15, m38_496, m38_497, nb0, nb1, ou_a, Option.toList_some, Option.toList_none, List.nil_append, List.cons_append, inB_iff, setA_len, getA_set2, ou_same, ou_comm, setA_same]
  refine rs (by (repeat refine LN_ou ?_ (by simp only [setA_len])); exact fun _ => rfl) (fun A1 hL1 _ _ _ => ?_)
  have bl1 := bL hL1
  simp (maxSteps := 10000000) [a1, a2, a3, a4, a5, a6, a7, a8, b1, b2, b3, b4, b5, n3, n4, v1, v2, n1, n2, bl1, own_k0_0, own_k0_1, own_k0_2, own_k0_3, own_k0_4, m0_205, own_k0_5, own_k2_0, own_k2_1, own_k2_2, own_k2_3, m2_111, own_k2_4, m3_0, m3_1u, m3_2, own_k3_0, own_k4_0, own_k4_1, own_k4_2, own_k4_3, m5_0, m5_1u, m5_2, own_k5_0, own_k5_1, own_k5_2, own_k6_0, own_k6_1, own_k6_2, own_k6_3, own_k6_4, own_k7_0, own_k7_1, own_k8_0, m8_8, own_k8_1, own_k8_2, own_k9_0, own_k9_1, m9_42, own_k9_2, own_k9_3, own_k10_0, m10_7, own_k10_1, own_k10_2, own_k10_3, m11_0, m11_1u, m11_2, own_k11_0, m11_12, own_k11_1, own_k11_2, own_k12_0, m12_13, own_k12_1, m12_37, own_k12_2, own_k12_3, own_k13_0, m13_17, own_k13_1, own_k13_2, own_k14_0, m14_14, own_k14_1, own_k14_2, own_k14_3, m15_0, m15_1u, m15_2, own_k15_0, own_k15_1, m15_39, own_k15_2, own_k16_0, own_k17_0, own_k18_0, own_k19_0, own_k20_0, own_k21_0, own_k22_0, own_k32_0, own_k33_0, own_k34_0, m34_13, own_k34_1, own_k34_2, own_k35_0, own_k36_0, own_k38_0, own_k38_1, own_k38_2, own_k38_3, own_k38_4, own_k38_5, own_k38_6, own_k38_7, own_k38_8, own_k38_9, own_k38_10, own_k38_11, own_k38_12, own_k38_13, own_k38_14, own_k38_15, m38_496, m38_497, nb0, nb1, ou_a, Option.toList_some, Option.toList_none, List.nil_append, List.cons_append, inB_iff, setA_len, getA_set2, ou_same, ou_comm, setA_same]
  refine rs (by (repeat refine LN_ou ?_ (by simp only [setA_len]; exact hL1 _)); exact hL1) (fun A2 hL2 fr2 sm0 sm1 => ?_)
  have bl2 := bL hL2
  have F2 : getA (A2 0) 0 = 24 ∧ getA (A2 1) 0 = d0 ∧ getA (A2 2) 0 = c0 ∧ getA (A2 3) 0 = 1 ∧ getA (A2 4) 0 = 0 ∧ getA (A2 4) 1 = 0 ∧ getA (A2 4) 2 = 0 ∧ getA (A2 4) 3 = 0 ∧ getA (A2 5) 0 = 0 ∧ getA (A2 5) 1 = 0 ∧ getA (A2 5) 2 = l0 ∧ getA (A2 5) 3 = 0 ∧ getA (A2 6) 0 = c0 ∧ getA (A2 7) 0 = 0 ∧ getA (A2 8) 0 = 0 ∧ getA (A2 8) 1 = 0 ∧ getA (A2 8) 2 = 1 ∧ getA (A2 8) 3 = 0 := by
    simp [fr2 0 (by decide), fr2 1 (by decide), fr2 2 (by decide), fr2 3 (by decide), fr2 4 (by decide), fr2 5 (by decide), fr2 6 (by decide), fr2 7 (by decide), fr2 8 (by decide), ou_a, getA_set2, setA_len, bl1]
  clear fr2 bl1
  by_cases x0 : d0 < c0 + c1
  · have x1 : True := trivial
    simp (maxSteps := 10000000) [x0, x1, a1, a2, a3, a4, a5, a6, a7, a8, b1, b2, b3, b4, b5, n3, n4, v1, v2, n1, n2, bl2, F2, own_k0_0, own_k0_1, own_k0_2, own_k0_3, own_k0_4, m0_205, own_k0_5, own_k2_0, own_k2_1, own_k2_2, own_k2_3, m2_111, own_k2_4, m3_0, m3_1u, m3_2, own_k3_0, own_k4_0, own_k4_1, own_k4_2, own_k4_3, m5_0, m5_1u, m5_2, own_k5_0, own_k5_1, own_k5_2, own_k6_0, own_k6_1, own_k6_2, own_k6_3, own_k6_4, own_k7_0, own_k7_1, own_k8_0, m8_8, own_k8_1, own_k8_2, own_k9_0, own_k9_1, m9_42, own_k9_2, own_k9_3, own_k10_0, m10_7, own_k10_1, own_k10_2, own_k10_3, m11_0, m11_1u, m11_2, own_k11_0, m11_12, own_k11_1, own_k11_2, own_k12_0, m12_13, own_k12_1, m12_37, own_k12_2, own_k12_3, own_k13_0, m13_17, own_k13_1, own_k13_2, own_k14_0, m14_14, own_k14_1, own_k14_2, own_k14_3, m15_0, m15_1u, m15_2, own_k15_0, own_k15_1, m15_39, own_k15_2, own_k16_0, own_k17_0, own_k18_0, own_k19_0, own_k20_0, own_k21_0, own_k22_0, own_k32_0, own_k33_0, own_k34_0, m34_13, own_k34_1, own_k34_2, own_k35_0, own_k36_0, own_k38_0, own_k38_1, own_k38_2, own_k38_3, own_k38_4, own_k38_5, own_k38_6, own_k38_7, own_k38_8, own_k38_9, own_k38_10, own_k38_11, own_k38_12, own_k38_13, own_k38_14, own_k38_15, m38_496, m38_497, nb0, nb1, ou_a, Option.toList_some, Option.toList_none, List.nil_append, List.cons_append, inB_iff, setA_len, getA_set2, ou_same, ou_comm, setA_same]
    refine rnO (r := 2) (l0 := l0) (c0 := c0) (d0 := d0) (by decide) ?_ ?_ ?_ ?_ ?_ ?_ a8 (by omega) (by omega) (by omega) (fun s' A' iv q0 => ?_)
    rotate_left 6
    · have t1 := iv.2.1 1 (by decide)
      have t9 := iv.2.2.1
      have t10 := iv.2.1 10 (by decide)
      have bl4 := bL iv.1
      unfold SM at q0
      simp (maxSteps := 10000000) [t1, t9, t10, q0, bl4, own_k0_0, own_k0_1, own_k0_2, own_k0_3, own_k0_4, m0_205, own_k0_5, own_k2_0, own_k2_1, own_k2_2, own_k2_3, m2_111, own_k2_4, m3_0, m3_1u, m3_2, own_k3_0, own_k4_0, own_k4_1, own_k4_2, own_k4_3, m5_0, m5_1u, m5_2, own_k5_0, own_k5_1, own_k5_2, own_k6_0, own_k6_1, own_k6_2, own_k6_3, own_k6_4, own_k7_0, own_k7_1, own_k8_0, m8_8, own_k8_1, own_k8_2, own_k9_0, own_k9_1, m9_42, own_k9_2, own_k9_3, own_k10_0, m10_7, own_k10_1, own_k10_2, own_k10_3, m11_0, m11_1u, m11_2, own_k11_0, m11_12, own_k11_1, own_k11_2, own_k12_0, m12_13, own_k12_1, m12_37, own_k12_2, own_k12_3, own_k13_0, m13_17, own_k13_1, own_k13_2, own_k14_0, m14_14, own_k14_1, own_k14_2, own_k14_3, m15_0, m15_1u, m15_2, own_k15_0, own_k15_1, m15_39, own_k15_2, own_k16_0, own_k17_0, own_k18_0, own_k19_0, own_k20_0, own_k21_0, own_k22_0, own_k32_0, own_k33_0, own_k34_0, m34_13, own_k34_1, own_k34_2, own_k35_0, own_k36_0, own_k38_0, own_k38_1, own_k38_2, own_k38_3, own_k38_4, own_k38_5, own_k38_6, own_k38_7, own_k38_8, own_k38_9, own_k38_10, own_k38_11, own_k38_12, own_k38_13, own_k38_14, own_k38_15, m38_496, m38_497, nb0, nb1, ou_a, Option.toList_some, Option.toList_none, List.nil_append, List.cons_append, inB_iff, setA_len, getA_set2, ou_same, ou_comm, setA_same, lt_irr]
      exact hQ _ _ iv.1
    · exact (by (repeat refine LN_ou ?_ (by simp only [setA_len]; exact hL2 _)); exact hL2)
    · simp [ou_a]
    · simp [ou_a]
    · simp [ou_a]
    · unfold S0
      simp [bl2, F2, getA_set2, setA_len, ou_a]
    · unfold SM at *
      simp [sm0, ou_a]
  by_cases x1 : d1 < c1 + l0
  · simp (maxSteps := 10000000) [x0, x1, a1, a2, a3, a4, a5, a6, a7, a8, b1, b2, b3, b4, b5, n3, n4, v1, v2, n1, n2, bl2, F2, own_k0_0, own_k0_1, own_k0_2, own_k0_3, own_k0_4, m0_205, own_k0_5, own_k2_0, own_k2_1, own_k2_2, own_k2_3, m2_111, own_k2_4, m3_0, m3_1u, m3_2, own_k3_0, own_k4_0, own_k4_1, own_k4_2, own_k4_3, m5_0, m5_1u, m5_2, own_k5_0, own_k5_1, own_k5_2, own_k6_0, own_k6_1, own_k6_2, own_k6_3, own_k6_4, own_k7_0, own_k7_1, own_k8_0, m8_8, own_k8_1, own_k8_2, own_k9_0, own_k9_1, m9_42, own_k9_2, own_k9_3, own_k10_0, m10_7, own_k10_1, own_k10_2, own_k10_3, m11_0, m11_1u, m11_2, own_k11_0, m11_12, own_k11_1, own_k11_2, own_k12_0, m12_13, own_k12_1, m12_37, own_k12_2, own_k12_3, own_k13_0, m13_17, own_k13_1, own_k13_2, own_k14_0, m14_14, own_k14_1, own_k14_2, own_k14_3, m15_0, m15_1u, m15_2, own_k15_0, own_k15_1, m15_39, own_k15_2, own_k16_0, own_k17_0, own_k18_0, own_k19_0, own_k20_0, own_k21_0, own_k22_0, own_k32_0, own_k33_0, own_k34_0, m34_13, own_k34_1, own_k34_2, own_k35_0, own_k36_0, own_k38_0, own_k38_1, own_k38_2, own_k38_3, own_k38_4, own_k38_5, own_k38_6, own_k38_7, own_k38_8, own_k38_9, own_k38_10, own_k38_11, own_k38_12, own_k38_13, own_k38_14, own_k38_15, m38_496, m38_497, nb0, nb1, ou_a, Option.toList_some, Option.toList_none, List.nil_append, List.cons_append, inB_iff, setA_len, getA_set2, ou_same, ou_comm, setA_same]
    refine rnO (r := 2) (l0 := l0) (c0 := c0) (d0 := d0) (by decide) ?_ ?_ ?_ ?_ ?_ ?_ a8 (by omega) (by omega) (by omega) (fun s' A' iv q0 => ?_)
    rotate_left 6
    · have t1 := iv.2.1 1 (by decide)
      have t9 := iv.2.2.1
      have t10 := iv.2.1 10 (by decide)
      have bl4 := bL iv.1
      unfold SM at q0
      simp (maxSteps := 10000000) [t1, t9, t10, q0, bl4, own_k0_0, own_k0_1, own_k0_2, own_k0_3, own_k0_4, m0_205, own_k0_5, own_k2_0, own_k2_1, own_k2_2, own_k2_3, m2_111, own_k2_4, m3_0, m3_1u, m3_2, own_k3_0, own_k4_0, own_k4_1, own_k4_2, own_k4_3, m5_0, m5_1u, m5_2, own_k5_0, own_k5_1, own_k5_2, own_k6_0, own_k6_1, own_k6_2, own_k6_3, own_k6_4, own_k7_0, own_k7_1, own_k8_0, m8_8, own_k8_1, own_k8_2, own_k9_0, own_k9_1, m9_42, own_k9_2, own_k9_3, own_k10_0, m10_7, own_k10_1, own_k10_2, own_k10_3, m11_0, m11_1u, m11_2, own_k11_0, m11_12, own_k11_1, own_k11_2, own_k12_0, m12_13, own_k12_1, m12_37, own_k12_2, own_k12_3, own_k13_0, m13_17, own_k13_1, own_k13_2, own_k14_0, m14_14, own_k14_1, own_k14_2, own_k14_3, m15_0, m15_1u, m15_2, own_k15_0, own_k15_1, m15_39, own_k15_2, own_k16_0, own_k17_0, own_k18_0, own_k19_0, own_k20_0, own_k21_0, own_k22_0, own_k32_0, own_k33_0, own_k34_0, m34_13, own_k34_1, own_k34_2, own_k35_0, own_k36_0, own_k38_0, own_k38_1, own_k38_2, own_k38_3, own_k38_4, own_k38_5, own_k38_6, own_k38_7, own_k38_8, own_k38_9, own_k38_10, own_k38_11, own_k38_12, own_k38_13, own_k38_14, own_k38_15, m38_496, m38_497, nb0, nb1, ou_a, Option.toList_some, Option.toList_none, List.nil_append, List.cons_append, inB_iff, setA_len, getA_set2, ou_same, ou_comm, setA_same, lt_irr]
      exact hQ _ _ iv.1
    · exact (by (repeat refine LN_ou ?_ (by simp only [setA_len]; exact hL2 _)); exact hL2)
    · simp [ou_a]
    · simp [ou_a]
    · simp [ou_a]
    · unfold S0
      simp [bl2, F2, getA_set2, setA_len, ou_a]
    · unfold SM at *
      simp [sm0, ou_a]
  simp (maxSteps := 10000000) [x0, x1, a1, a2, a3, a4, a5, a6, a7, a8, b1, b2, b3, b4, b5, n3, n4, v1, v2, n1, n2, bl2, F2, own_k0_0, own_k0_1, own_k0_2, own_k0_3, own_k0_4, m0_205, own_k0_5, own_k2_0, own_k2_1, own_k2_2, own_k2_3, m2_111, own_k2_4, m3_0, m3_1u, m3_2, own_k3_0, own_k4_0, own_k4_1, own_k4_2, own_k4_3, m5_0, m5_1u, m5_2, own_k5_0, own_k5_1, own_k5_2, own_k6_0, own_k6_1, own_k6_2, own_k6_3, own_k6_4, own_k7_0, own_k7_1, own_k8_0, m8_8, own_k8_1, own_k8_2, own_k9_0, own_k9_1, m9_42, own_k9_2, own_k9_3, own_k10_0, m10_7, own_k10_1, own_k10_2, own_k10_3, m11_0, m11_1u, m11_2, own_k11_0, m11_12, own_k11_1, own_k11_2, own_k12_0, m12_13, own_k12_1, m12_37, own_k12_2, own_k12_3, own_k13_0, m13_17, own_k13_1, own_k13_2, own_k14_0, m14_14, own_k14_1, own_k14_2, own_k14_3, m15_0, m15_1u, m15_2, own_k15_0, own_k15_1, m15_39, own_k15_2, own_k16_0, own_k17_0, own_k18_0, own_k19_0, own_k20_0, own_k21_0, own_k22_0, own_k32_0, own_k33_0, own_k34_0, m34_13, own_k34_1, own_k34_2, own_k35_0, own_k36_0, own_k38_0, own_k38_1, own_k38_2, own_k38_3, own_k38_4, own_k38_5, own_k38_6, own_k38_7, own_k38_8, own_k38_9, own_k38_10, own_k38_11, own_k38_12, own_k38_13, own_k38_14, own_k38_15, m38_496, m38_497, nb0, nb1, ou_a, Option.toList_some, Option.toList_none, List.nil_append, List.cons_append, inB_iff, setA_len, getA_set2, ou_same, ou_comm, setA_same]
  refine rs (by (repeat refine LN_ou ?_ (by simp only [setA_len]; exact hL2 _)); exact hL2) (fun A3 hL3 fr3 sm0' sm1' => ?_)
  have bl3 := bL hL3
  have F3 : getA (A3 0) 0 = 24 ∧ getA (A3 0) 1 = 24 ∧ getA (A3 1) 0 = d0 ∧ getA (A3 1) 1 = d1 ∧ getA (A3 2) 0 = c0 ∧ getA (A3 2) 1 = c1 ∧ getA (A3 3) 0 = 1 ∧ getA (A3 3) 1 = 2 ∧ getA (A3 4) 0 = 0 ∧ getA (A3 4) 1 = 0 ∧ getA (A3 4) 2 = 0 ∧ getA (A3 4) 3 = 0 ∧ getA (A3 4) 4 = 0 ∧ getA (A3 4) 5 = 0 ∧ getA (A3 4) 6 = 0 ∧ getA (A3 4) 7 = 0 ∧ getA (A3 5) 0 = 0 ∧ getA (A3 5) 1 = 0 ∧ getA (A3 5) 2 = l0 ∧ getA (A3 5) 3 = 0 ∧ getA (A3 5) 4 = 0 ∧ getA (A3 5) 5 = 0 ∧ getA (A3 5) 6 = 1 ∧ getA (A3 5) 7 = 0 ∧ getA (A3 6) 0 = c0 + c1 ∧ getA (A3 6) 1 = c1 + l0 ∧ getA (A3 7) 0 = 0 ∧ getA (A3 7) 1 = l0 ∧ getA (A3 8) 0 = 0 ∧ getA (A3 8) 1 = 0 ∧ getA (A3 8) 2 = 2 ∧ getA (A3 8) 3 = 0 := by
    simp [fr3 0 (by decide), fr3 1 (by decide), fr3 2 (by decide), fr3 3 (by decide), fr3 4 (by decide), fr3 5 (by decide), fr3 6 (by decide), fr3 7 (by decide), fr3 8 (by decide), F2, ou_a, getA_set2, setA_len, bl2]
  clear fr3 bl2 F2
  simp (maxSteps := 10000000) [x0, x1, a1, a2, a3, a4, a5, a6, a7, a8, b1, b2, b3, b4, b5, n3, n4, v1, v2, n1, n2, bl3, F3, own_k0_0, own_k0_1, own_k0_2, own_k0_3, own_k0_4, m0_205, own_k0_5, own_k2_0, own_k2_1, own_k2_2, own_k2_3, m2_111, own_k2_4, m3_0, m3_1u, m3_2, own_k3_0, own_k4_0, own_k4_1, own_k4_2, own_k4_3, m5_0, m5_1u, m5_2, own_k5_0, own_k5_1, own_k5_2, own_k6_0, own_k6_1, own_k6_2, own_k6_3, own_k6_4, own_k7_0, own_k7_1, own_k8_0, m8_8, own_k8_1, own_k8_2, own_k9_0, own_k9_1, m9_42, own_k9_2, own_k9_3, own_k10_0, m10_7, own_k10_1, own_k10_2, own_k10_3, m11_0, m11_1u, m11_2, own_k11_0, m11_12, own_k11_1, own_k11_2, own_k12_0, m12_13, own_k12_1, m12_37, own_k12_2, own_k12_3, own_k13_0, m13_17, own_k13_1, own_k13_2, own_k14_0, m14_14, own_k14_1, own_k14_2, own_k14_3, m15_0, m15_1u, m15_2, own_k15_0, own_k15_1, m15_39, own_k15_2, own_k16_0, own_k17_0, own_k18_0, own_k19_0, own_k20_0, own_k21_0, own_k22_0, own_k32_0, own_k33_0, own_k34_0, m34_13, own_k34_1, own_k34_2, own_k35_0, own_k36_0, own_k38_0, own_k38_1, own_k38_2, own_k38_3, own_k38_4, own_k38_5, own_k38_6, own_k38_7, own_k38_8, own_k38_9, own_k38_10, own_k38_11, own_k38_12, own_k38_13, own_k38_14, own_k38_15, m38_496, m38_497, nb0, nb1, ou_a, Option.toList_some, Option.toList_none, List.nil_append, List.cons_append, inB_iff, setA_len, getA_set2, ou_same, ou_comm, setA_same]
  have x0' := x0
  have x1' := x1
  rw [lt_i, es] at x0'
  rw [lt_i, el] at x1'
  refine rnI (r := 2) (l0 := l0) (c0 := c0) (d0 := d0) (c1 := c1) (d1 := d1) (X := c0 + c1) (by decide) hL3 ?_ ?_ ?_ ?_ ?_ sm0' sm1' a8 k4 k2 k5 k6 es (by omega) (by omega) (fun s' A' iv q0 q1 => ?_)
  rotate_left 5
  · have t1 := iv.2.1 1 (by decide)
    have t9 := iv.2.2.1
    have t10 := iv.2.1 10 (by decide)
    have bl4 := bL iv.1
    unfold SM at q0 q1
    simp (maxSteps := 10000000) [t1, t9, t10, q0, q1, bl4, own_k0_0, own_k0_1, own_k0_2, own_k0_3, own_k0_4, m0_205, own_k0_5, own_k2_0, own_k2_1, own_k2_2, own_k2_3, m2_111, own_k2_4, m3_0, m3_1u, m3_2, own_k3_0, own_k4_0, own_k4_1, own_k4_2, own_k4_3, m5_0, m5_1u, m5_2, own_k5_0, own_k5_1, own_k5_2, own_k6_0, own_k6_1, own_k6_2, own_k6_3, own_k6_4, own_k7_0, own_k7_1, own_k8_0, m8_8, own_k8_1, own_k8_2, own_k9_0, own_k9_1, m9_42, own_k9_2, own_k9_3, own_k10_0, m10_7, own_k10_1, own_k10_2, own_k10_3, m11_0, m11_1u, m11_2, own_k11_0, m11_12, own_k11_1, own_k11_2, own_k12_0, m12_13, own_k12_1, m12_37, own_k12_2, own_k12_3, own_k13_0, m13_17, own_k13_1, own_k13_2, own_k14_0, m14_14, own_k14_1, own_k14_2, own_k14_3, m15_0, m15_1u, m15_2, own_k15_0, own_k15_1, m15_39, own_k15_2, own_k16_0, own_k17_0, own_k18_0, own_k19_0, own_k20_0, own_k21_0, own_k22_0, own_k32_0, own_k33_0, own_k34_0, m34_13, own_k34_1, own_k34_2, own_k35_0, own_k36_0, own_k38_0, own_k38_1, own_k38_2, own_k38_3, own_k38_4, own_k38_5, own_k38_6, own_k38_7, own_k38_8, own_k38_9, own_k38_10, own_k38_11, own_k38_12, own_k38_13, own_k38_14, own_k38_15, m38_496, m38_497, nb0, nb1, ou_a, Option.toList_some, Option.toList_none, List.nil_append, List.cons_append, inB_iff, setA_len, getA_set2, ou_same, ou_comm, setA_same, lt_irr]
    exact hQ _ _ iv.1
  · simp [ou_a]
  · simp [ou_a]
  · simp [ou_a]
  · unfold S0
    simp [F3]
  · unfold S1
    simp [F3]
set_option maxRecDepth 1000000 in
set_option maxHeartbeats 20000000 in
theorem own_mid3 {c0 l0 c1 d0 d1 i0 i1 i2 i3 i4 i5 : Int32} (k1 : 1 ≤ c0.toInt) (k2 : c0.toInt ≤ 8) (k3 : 1 ≤ l0.toInt) (k4 : l0.toInt ≤ c0.toInt) (k5 : 1 ≤ c1.toInt) (k6 : c1.toInt ≤ 4) (k7 : c0.toInt ≤ d0.toInt) (k8 : d0.toInt ≤ 15) (k9 : c1.toInt ≤ d1.toInt) (k10 : d1.toInt ≤ 15)
    (hQ : ∀ s' A', LN A' → Q (some (.int 1)) (put 0 [] s' A' [])) : M38 60 [.val (.int i0), .val (.int i1), .val (.int i2), .val (.int i3), .val (.int i4), .val (.int i5), .val (.int c0), .val (.int l0), .val (.int c1), .val (.int d0), .val (.int d1), .val (.int 3), .unset, .unset, .unset, .unset] [] [] Q := by
  have es : (c0 + c1).toInt = c0.toInt + c1.toInt := add_i (by omega) (by omega)
  have el : (c1 + l0).toInt = c1.toInt + l0.toInt := add_i (by omega) (by omega)
  have a1 : ¬ d0 < 1 := by rw [lt_i, i_1]; omega
  have a2 : ¬ 24 < d0 := by rw [lt_i, i_24]; omega
  have a3 : ¬ c0 < 1 := by rw [lt_i, i_1]; omega
  have a4 : ¬ d0 < c0 := by rw [lt_i]; omega
  have a5 : ¬ l0 < 1 := by rw [lt_i, i_1]; omega
  have a6 : ¬ c0 < 0 := by rw [lt_i, i_0]; omega
  have a7 : ¬ c0 < l0 := by rw [lt_i]; omega
  have a8 : 0 < l0 := by rw [lt_i, i_0]; omega
  have b1 : ¬ d1 < 1 := by rw [lt_i, i_1]; omega
  have b2 : ¬ 24 < d1 := by rw [lt_i, i_24]; omega
  have b3 : ¬ c1 < 1 := by rw [lt_i, i_1]; omega
  have b4 : ¬ d1 < c1 := by rw [lt_i]; omega
  have b5 : ¬ c1 < 0 := by rw [lt_i, i_0]; omega
  have n3 : ¬ c0 + c1 < 0 := by rw [lt_i, i_0, es]; omega
  have n4 : ¬ c1 + l0 < 0 := by rw [lt_i, i_0, el]; omega
  have v1 := dv k1 (by omega)
  have v2 := dv (x := c0 + c1) (by omega) (by omega)
  have n2 : ¬ c1 = 0 := fun z => by rw [z, i_0] at k5; omega
  have n1 : ¬ c0 + c1 = c0 := fun z => by rw [z] at es; omega
  rw [m38_60, m38_63, m38_64, m38_66, own_ctor0 rfl]
  simp (maxSteps := 10000000) [A0l_8, own_k0_0, own_k0_1, own_k0_2, own_k0_3, own_k0_4, m0_205, own_k0_5, own_k2_0, own_k2_1, own_k2_2, own_k2_3, m2_111, own_k2_4, m3_0, m3_1u, m3_2, own_k3_0, own_k4_0, own_k4_1, own_k4_2, own_k4_3, m5_0, m5_1u, m5_2, own_k5_0, own_k5_1, own_k5_2, own_k6_0, own_k6_1, own_k6_2, own_k6_3, own_k6_4, own_k7_0, own_k7_1, own_k8_0, m8_8, own_k8_1, own_k8_2, own_k9_0, own_k9_1, m9_42, own_k9_2, own_k9_3, own_k10_0, m10_7, own_k10_1, own_k10_2, own_k10_3, m11_0, m11_1u, m11_2, own_k11_0, m11_12, own_k11_1, own_k11_2, own_k12_0, m12_13, own_k12_1, m12_37, own_k12_2, own_k12_3, own_k13_0, m13_17, own_k13_1, own_k13_2, own_k14_0, m14_14, own_k14_1, own_k14_2, own_k14_3, m15_0, m15_1u, m15_2, own_k15_0, own_k15_1, m15_39, own_k15_2, own_k16_0, own_k17_0, own_k18_0, own_k19_0, own_k20_0, own_k21_0, own_k22_0, own_k32_0, own_k33_0, own_k34_0, m34_13, own_k34_1, own_k34_2, own_k35_0, own_k36_0, own_k38_0, own_k38_1, own_k38_2, own_k38_3, own_k38_4, own_k38_5, own_k38_6, own_k38_7, own_k38_8, own_k38_9, own_k38_10, own_k38_11, own_k38_12, own_k38_13, own_k38_14, own_k38_15, m38_496, m38_497, nb0, nb1, ou_a, Option.toList_some, Option.toList_none, List.nil_append, List.cons_append, inB_iff, setA_len, getA_set2, ou_same, ou_comm, setA_same]
  refine rs (by (repeat refine LN_ou ?_ (by simp only [setA_len])); exact fun _ => rfl) (fun A1 hL1 _ _ _ => ?_)
  have bl1 := bL hL1
  simp (maxSteps := 10000000) [a1, a2, a3, a4, a5, a6, a7, a8, b1, b2, b3, b4, b5, n3, n4, v1, v2, n1, n2, bl1, own_k0_0, own_k0_1, own_k0_2, own_k0_3, own_k0_4, m0_205, own_k0_5, own_k2_0, own_k2_1, own_k2_2, own_k2_3, m2_111, own_k2_4, m3_0, m3_1u, m3_2, own_k3_0, own_k4_0, own_k4_1, own_k4_2, own_k4_3, m5_0, m5_1u, m5_2, own_k5_0, own_k5_1, own_k5_2, own_k6_0, own_k6_1, own_k6_2, own_k6_3, own_k6_4, own_k7_0, own_k7_1, own_k8_0, m8_8, own_k8_1, own_k8_2, own_k9_0, own_k9_1, m9_42, own_k9_2, own_k9_3, own_k10_0, m10_7, own_k10_1, own_k10_2, own_k10_3, m11_0, m11_1u, m11_2, own_k11_0, m11_12, own_k11_1, own_k11_2, own_k12_0, m12_13, own_k12_1, m12_37, own_k12_2, own_k12_3, own_k13_0, m13_17, own_k13_1, own_k13_2, own_k14_0, m14_14, own_k14_1, own_k14_2, own_k14_3, m15_0, m15_1u, m15_2, own_k15_0, own_k15_1, m15_39, own_k15_2, own_k16_0, own_k17_0, own_k18_0, own_k19_0, own_k20_0, own_k21_0, own_k22_0, own_k32_0, own_k33_0, own_k34_0, m34_13, own_k34_1, own_k34_2, own_k35_0, own_k36_0, own_k38_0, own_k38_1, own_k38_2, own_k38_3, own_k38_4, own_k38_5, own_k38_6, own_k38_7, own_k38_8, own_k38_9, own_k38_10, own_k38_11, own_k38_12, own_k38_13, own_k38_14, own_k38_15, m38_496, m38_497, nb0, nb1, ou_a, Option.toList_some, Option.toList_none, List.nil_append, List.cons_append, inB_iff, setA_len, getA_set2, ou_same, ou_comm, setA_same]
  refine rs (by (repeat refine LN_ou ?_ (by simp only [setA_len]; exact hL1 _)); exact hL1) (fun A2 hL2 fr2 sm0 sm1 => ?_)
  have bl2 := bL hL2
  have F2 : getA (A2 0) 0 = 24 ∧ getA (A2 1) 0 = d0 ∧ getA (A2 2) 0 = c0 ∧ getA (A2 3) 0 = 1 ∧ getA (A2 4) 0 = 0 ∧ getA (A2 4) 1 = 0 ∧ getA (A2 4) 2 = 0 ∧ getA (A2 4) 3 = 0 ∧ getA (A2 5) 0 = 0 ∧ getA (A2 5) 1 = 0 ∧ getA (A2 5) 2 = 0 ∧ getA (A2 5) 3 = l0 ∧ getA (A2 6) 0 = c0 ∧ getA (A2 7) 0 = 0 ∧ getA (A2 8) 0 = 0 ∧ getA (A2 8) 1 = 0 ∧ getA (A2 8) 2 = 0 ∧ getA (A2 8) 3 = 1 := by
    simp [fr2 0 (by decide), fr2 1 (by decide), fr2 2 (by decide), fr2 3 (by decide), fr2 4 (by decide), fr2 5 (by decide), fr2 6 (by decide), fr2 7 (by decide), fr2 8 (by decide), ou_a, getA_set2, setA_len, bl1]
  clear fr2 bl1
  by_cases x0 : d0 < c0 + c1
  · have x1 : True := trivial
    simp (maxSteps := 10000000) [x0, x1, a1, a2, a3, a4, a5, a6, a7, a8, b1, b2, b3, b4, b5, n3, n4, v1, v2, n1, n2, bl2, F2, own_k0_0, own_k0_1, own_k0_2, own_k0_3, own_k0_4, m0_205, own_k0_5, own_k2_0, own_k2_1, own_k2_2, own_k2_3, m2_111, own_k2_4, m3_0, m3_1u, m3_2, own_k3_0, own_k4_0, own_k4_1, own_k4_2, own_k4_3, m5_0, m5_1u, m5_2, own_k5_0, own_k5_1, own_k5_2, own_k6_0, own_k6_1, own_k6_2, own_k6_3, own_k6_4, own_k7_0, own_k7_1, own_k8_0, m8_8, own_k8_1, own_k8_2, own_k9_0, own_k9_1, m9_42, own_k9_2, own_k9_3, own_k10_0, m10_7, own_k10_1, own_k10_2, own_k10_3, m11_0, m11_1u, m11_2, own_k11_0, m11_12, own_k11_1, own_k11_2, own_k12_0, m12_13, own_k12_1, m12_37, own_k12_2, own_k12_3, own_k13_0, m13_17, own_k13_1, own_k13_2, own_k14_0, m14_14, own_k14_1, own_k14_2, own_k14_3, m15_0, m15_1u, m15_2, own_k15_0, own_k15_1, m15_39, own_k15_2, own_k16_0, own_k17_0, own_k18_0, own_k19_0, own_k20_0, own_k21_0, own_k22_0, own_k32_0, own_k33_0, own_k34_0, m34_13, own_k34_1, own_k34_2, own_k35_0, own_k36_0, own_k38_0, own_k38_1, own_k38_2, own_k38_3, own_k38_4, own_k38_5, own_k38_6, own_k38_7, own_k38_8, own_k38_9, own_k38_10, own_k38_11, own_k38_12, own_k38_13, own_k38_14, own_k38_15, m38_496, m38_497, nb0, nb1, ou_a, Option.toList_some, Option.toList_none, List.nil_append, List.cons_append, inB_iff, setA_len, getA_set2, ou_same, ou_comm, setA_same]
    refine rnO (r := 3) (l0 := l0) (c0 := c0) (d0 := d0) (by decide) ?_ ?_ ?_ ?_ ?_ ?_ a8 (by omega) (by omega) (by omega) (fun s' A' iv q0 => ?_)
    rotate_left 6
    · have t1 := iv.2.1 1 (by decide)
      have t9 := iv.2.2.1
      have t10 := iv.2.1 10 (by decide)
      have bl4 := bL iv.1
      unfold SM at q0
      simp (maxSteps := 10000000) [t1, t9, t10, q0, bl4, own_k0_0, own_k0_1, own_k0_2, own_k0_3, own_k0_4, m0_205, own_k0_5, own_k2_0, own_k2_1, own_k2_2, own_k2_3, m2_111, own_k2_4, m3_0, m3_1u, m3_2, own_k3_0, own_k4_0, own_k4_1, own_k4_2, own_k4_3, m5_0, m5_1u, m5_2, own_k5_0, own_k5_1, own_k5_2, own_k6_0, own_k6_1, own_k6_2, own_k6_3, own_k6_4, own_k7_0, own_k7_1, own_k8_0, m8_8, own_k8_1, own_k8_2, own_k9_0, own_k9_1, m9_42, own_k9_2, own_k9_3, own_k10_0, m10_7, own_k10_1, own_k10_2, own_k10_3, m11_0, m11_1u, m11_2, own_k11_0, m11_12, own_k11_1, own_k11_2, own_k12_0, m12_13, own_k12_1, m12_37, own_k12_2, own_k12_3, own_k13_0, m13_17, own_k13_1, own_k13_2, own_k14_0, m14_14, own_k14_1, own_k14_2, own_k14_3, m15_0, m15_1u, m15_2, own_k15_0, own_k15_1, m15_39, own_k15_2, own_k16_0, own_k17_0, own_k18_0, own_k19_0, own_k20_0, own_k21_0, own_k22_0, own_k32_0, own_k33_0, own_k34_0, m34_13, own_k34_1, own_k34_2, own_k35_0, own_k36_0, own_k38_0, own_k38_1, own_k38_2, own_k38_3, own_k38_4, own_k38_5, own_k38_6, own_k38_7, own_k38_8, own_k38_9, own_k38_10, own_k38_11, own_k38_12, own_k38_13, own_k38_14, own_k38_15, m38_496, m38_497, nb0, nb1, ou_a, Option.toList_some, Option.toList_none, List.nil_append, List.cons_append, inB_iff, setA_len, getA_set2, ou_same, ou_comm, setA_same, lt_irr]
      exact hQ _ _ iv.1
    · exact (by (repeat refine LN_ou ?_ (by simp only [setA_len]; exact hL2 _)); exact hL2)
    · simp [ou_a]
    · simp [ou_a]
    · simp [ou_a]
    · unfold S0
      simp [bl2, F2, getA_set2, setA_len, ou_a]
    · unfold SM at *
      simp [sm0, ou_a]
  by_cases x1 : d1 < c1 + l0
  · simp (maxSteps := 10000000) [x0, x1, a1, a2, a3, a4, a5, a6, a7, a8, b1, b2, b3, b4, b5, n3, n4, v1, v2, n1, n2, bl2, F2, own_k0_0, own_k0_1, own_k0_2, own_k0_3, own_k0_4, m0_205, own_k0_5, own_k2_0, own_k2_1, own_k2_2, own_k2_3, m2_111, own_k2_4, m3_0, m3_1u, m3_2, own_k3_0, own_k4_0, own_k4_1, own_k4_2, own_k4_3, m5_0, m5_1u, m5_2, own_k5_0, own_k5_1, own_k5_2, own_k6_0, own_k6_1, own_k6_2, own_k6_3, own_k6_4, own_k7_0, own_k7_1, own_k8_0, m8_8, own_k8_1, own_k8_2, own_k9_0, own_k9_1, m9_42, own_k9_2, own_k9_3, own_k10_0, m10_7, own_k10_1, own_k10_2, own_k10_3, m11_0, m11_1u, m11_2, own_k11_0, m11_12, own_k11_1, own_k11_2, own_k12_0, m12_13, own_k12_1, m12_37, own_k12_2, own_k12_3, own_k13_0, m13_17, own_k13_1, own_k13_2, own_k14_0, m14_14, own_k14_1, own_k14_2, own_k14_3, m15_0, m15_1u, m15_2, own_k15_0, own_k15_1, m15_39, own_k15_2, own_k16_0, own_k17_0, own_k18_0, own_k19_0, own_k20_0, own_k21_0, own_k22_0, own_k32_0, own_k33_0, own_k34_0, m34_13, own_k34_1, own_k34_2, own_k35_0, own_k36_0, own_k38_0, own_k38_1, own_k38_2, own_k38_3, own_k38_4, own_k38_5, own_k38_6, own_k38_7, own_k38_8, own_k38_9, own_k38_10, own_k38_11, own_k38_12, own_k38_13, own_k38_14, own_k38_15, m38_496, m38_497, nb0, nb1, ou_a, Option.toList_some, Option.toList_none, List.nil_append, List.cons_append, inB_iff, setA_len, getA_set2, ou_same, ou_comm, setA_same]
    refine rnO (r := 3) (l0 := l0) (c0 := c0) (d0 := d0) (by decide) ?_ ?_ ?_ ?_ ?_ ?_ a8 (by omega) (by omega) (by omega) (fun s' A' iv q0 => ?_)
    rotate_left 6
    · have t1 := iv.2.1 1 (by decide)
      have t9 := iv.2.2.1
      have t10 := iv.2.1 10 (by decide)
      have bl4 := bL iv.1
      unfold SM at q0
      simp (maxSteps := 10000000) [t1, t9, t10, q0, bl4, own_k0_0, own_k0_1, own_k0_2, own_k0_3, own_k0_4, m0_205, own_k0_5, own_k2_0, own_k2_1, own_k2_2, own_k2_3, m2_111, own_k2_4, m3_0, m3_1u, m3_2, own_k3_0, own_k4_0, own_k4_1, own_k4_2, own_k4_3, m5_0, m5_1u, m5_2, own_k5_0, own_k5_1, own_k5_2, own_k6_0, own_k6_1, own_k6_2, own_k6_3, own_k6_4, own_k7_0, own_k7_1, own_k8_0, m8_8, own_k8_1, own_k8_2, own_k9_0, own_k9_1, m9_42, own_k9_2, own_k9_3, own_k10_0, m10_7, own_k10_1, own_k10_2, own_k10_3, m11_0, m11_1u, m11_2, own_k11_0, m11_12, own_k11_1, own_k11_2, own_k12_0, m12_13, own_k12_1, m12_37, own_k12_2, own_k12_3, own_k13_0, m13_17, own_k13_1, own_k13_2, own_k14_0, m14_14, own_k14_1, own_k14_2, own_k14_3, m15_0, m15_1u, m15_2, own_k15_0, own_k15_1, m15_39, own_k15_2, own_k16_0, own_k17_0, own_k18_0, own_k19_0, own_k20_0, own_k21_0, own_k22_0, own_k32_0, own_k33_0, own_k34_0, m34_13, own_k34_1, own_k34_2, own_k35_0, own_k36_0, own_k38_0, own_k38_1, own_k38_2, own_k38_3, own_k38_4, own_k38_5, own_k38_6, own_k38_7, own_k38_8, own_k38_9, own_k38_10, own_k38_11, own_k38_12, own_k38_13, own_k38_14, own_k38_15, m38_496, m38_497, nb0, nb1, ou_a, Option.toList_some, Option.toList_none, List.nil_append, List.cons_append, inB_iff, setA_len, getA_set2, ou_same, ou_comm, setA_same, lt_irr]
      exact hQ _ _ iv.1
    · exact (by (repeat refine LN_ou ?_ (by simp only [setA_len]; exact hL2 _)); exact hL2)
    · simp [ou_a]
    · simp [ou_a]
    · simp [ou_a]
    · unfold S0
      simp [bl2, F2, getA_set2, setA_len, ou_a]
    · unfold SM at *
      simp [sm0, ou_a]
  simp (maxSteps := 10000000) [x0, x1, a1, a2, a3, a4, a5, a6, a7, a8, b1, b2, b3, b4, b5, n3, n4, v1, v2, n1, n2, bl2, F2, own_k0_0, own_k0_1, own_k0_2, own_k0_3, own_k0_4, m0_205, own_k0_5, own_k2_0, own_k2_1, own_k2_2, own_k2_3, m2_111, own_k2_4, m3_0, m3_1u, m3_2, own_k3_0, own_k4_0, own_k4_1, own_k4_2, own_k4_3, m5_0, m5_1u, m5_2, own_k5_0, own_k5_1, own_k5_2, own_k6_0, own_k6_1, own_k6_2, own_k6_3, own_k6_4, own_k7_0, own_k7_1, own_k8_0, m8_8, own_k8_1, own_k8_2, own_k9_0, own_k9_1, m9_42, own_k9_2, own_k9_3, own_k10_0, m10_7, own_k10_1, own_k10_2, own_k10_3, m11_0, m11_1u, m11_2, own_k11_0, m11_12, own_k11_1, own_k11_2, own_k12_0, m12_13, own_k12_1, m12_37, own_k12_2, own_k12_3, own_k13_0, m13_17, own_k13_1, own_k13_2, own_k14_0, m14_14, own_k14_1, own_k14_2, own_k14_3, m15_0, m15_1u, m15_2, own_k15_0, own_k15_1, m15_39, own_k15_2, own_k16_0, own_k17_0, own_k18_0, own_k19_0, own_k20_0, own_k21_0, own_k22_0, own_k32_0, own_k33_0, own_k34_0, m34_13, own_k34_1, own_k34_2, own_k35_0, own_k36_0, own_k38_0, own_k38_1, own_k38_2, own_k38_3, own_k38_4, own_k38_5, own_k38_6, own_k38_7, own_k38_8, own_k38_9, own_k38_10, own_k38_11, own_k38_12, own_k38_13, own_k38_14, own_k38_15, m38_496, m38_497, nb0, nb1, ou_a, Option.toList_some, Option.toList_none, List.nil_append, List.cons_append, inB_iff, setA_len, getA_set2, ou_same, ou_comm, setA_same]
  refine rs (by (repeat refine LN_ou ?_ (by simp only [setA_len]; exact hL2 _)); exact hL2) (fun A3 hL3 fr3 sm0' sm1' => ?_)
  have bl3 := bL hL3
  have F3 : getA (A3 0) 0 = 24 ∧ getA (A3 0) 1 = 24 ∧ getA (A3 1) 0 = d0 ∧ getA (A3 1) 1 = d1 ∧ getA (A3 2) 0 = c0 ∧ getA (A3 2) 1 = c1 ∧ getA (A3 3) 0 = 1 ∧ getA (A3 3) 1 = 2 ∧ getA (A3 4) 0 = 0 ∧ getA (A3 4) 1 = 0 ∧ getA (A3 4) 2 = 0 ∧ getA (A3 4) 3 = 0 ∧ getA (A3 4) 4 = 0 ∧ getA (A3 4) 5 = 0 ∧ getA (A3 4) 6 = 0 ∧ getA (A3 4) 7 = 0 ∧ getA (A3 5) 0 = 0 ∧ getA (A3 5) 1 = 0 ∧ getA (A3 5) 2 = 0 ∧ getA (A3 5) 3 = l0 ∧ getA (A3 5) 4 = 0 ∧ getA (A3 5) 5 = 0 ∧ getA (A3 5) 6 = 0 ∧ getA (A3 5) 7 = 1 ∧ getA (A3 6) 0 = c0 + c1 ∧ getA (A3 6) 1 = c1 + l0 ∧ getA (A3 7) 0 = 0 ∧ getA (A3 7) 1 = l0 ∧ getA (A3 8) 0 = 0 ∧ getA (A3 8) 1 = 0 ∧ getA (A3 8) 2 = 0 ∧ getA (A3 8) 3 = 2 := by
    simp [fr3 0 (by decide), fr3 1 (by decide), fr3 2 (by decide), fr3 3 (by decide), fr3 4 (by decide), fr3 5 (by decide), fr3 6 (by decide), fr3 7 (by decide), fr3 8 (by decide), F2, ou_a, getA_set2, setA_len, bl2]
  clear fr3 bl2 F2
  simp (maxSteps := 10000000) [x0, x1, a1, a2, a3, a4, a5, a6, a7, a8, b1, b2, b3, b4, b5, n3, n4, v1, v2, n1, n2, bl3, F3, own_k0_0, own_k0_1, own_k0_2, own_k0_3, own_k0_4, m0_205, own_k0_5, own_k2_0, own_k2_1, own_k2_2, own_k2_3, m2_111, own_k2_4, m3_0, m3_1u, m3_2, own_k3_0, own_k4_0, own_k4_1, own_k4_2, own_k4_3, m5_0, m5_1u, m5_2, own_k5_0, own_k5_1, own_k5_2, own_k6_0, own_k6_1, own_k6_2, own_k6_3, own_k6_4, own_k7_0, own_k7_1, own_k8_0, m8_8, own_k8_1, own_k8_2, own_k9_0, own_k9_1, m9_42, own_k9_2, own_k9_3, own_k10_0, m10_7, own_k10_1, own_k10_2, own_k10_3, m11_0, m11_1u, m11_2, own_k11_0, m11_12, own_k11_1, own_k11_2, own_k12_0, m12_13, own_k12_1, m12_37, own_k12_2, own_k12_3, own_k13_0, m13_17, own_k13_1, own_k13_2, own_k14_0, m14_14, own_k14_1, own_k14_2, own_k14_3, m15_0, m15_1u, m15_2, own_k15_0, own_k15_1, m15_39, own_k15_2, own_k16_0, own_k17_0, own_k18_0, own_k19_0, own_k20_0, own_k21_0, own_k22_0, own_k32_0, own_k33_0, own_k34_0, m34_13, own_k34_1, own_k34_2, own_k35_0, own_k36_0, own_k38_0, own_k38_1, own_k38_2, own_k38_3, own_k38_4, own_k38_5, own_k38_6, own_k38_7, own_k38_8, own_k38_9, own_k38_10, own_k38_11, own_k38_12, own_k38_13, own_k38_14, own_k38_15, m38_496, m38_497, nb0, nb1, ou_a, Option.toList_some, Option.toList_none, List.nil_append, List.cons_append, inB_iff, setA_len, getA_set2, ou_same, ou_comm, setA_same]
  have x0' := x0
  have x1' := x1
  rw [lt_i, es] at x0'
  rw [lt_i, el] at x1'
  refine rnI (r := 3) (l0 := l0) (c0 := c0) (d0 := d0) (c1 := c1) (d1 := d1) (X := c0 + c1) (by decide) hL3 ?_ ?_ ?_ ?_ ?_ sm0' sm1' a8 k4 k2 k5 k6 es (by omega) (by omega) (fun s' A' iv q0 q1 => ?_)
  rotate_left 5
  · have t1 := iv.2.1 1 (by decide)
    have t9 := iv.2.2.1
    have t10 := iv.2.1 10 (by decide)
    have bl4 := bL iv.1
    unfold SM at q0 q1
    simp (maxSteps := 10000000) [t1, t9, t10, q0, q1, bl4, own_k0_0, own_k0_1, own_k0_2, own_k0_3, own_k0_4, m0_205, own_k0_5, own_k2_0, own_k2_1, own_k2_2, own_k2_3, m2_111, own_k2_4, m3_0, m3_1u, m3_2, own_k3_0, own_k4_0, own_k4_1, own_k4_2, own_k4_3, m5_0, m5_1u, m5_2, own_k5_0, own_k5_1, own_k5_2, own_k6_0, own_k6_1, own_k6_2, own_k6_3, own_k6_4, own_k7_0, own_k7_1, own_k8_0, m8_8, own_k8_1, own_k8_2, own_k9_0, own_k9_1, m9_42, own_k9_2, own_k9_3, own_k10_0, m10_7, own_k10_1, own_k10_2, own_k10_3, m11_0, m11_1u, m11_2, own_k11_0, m11_12, own_k11_1, own_k11_2, own_k12_0, m12_13, own_k12_1, m12_37, own_k12_2, own_k12_3, own_k13_0, m13_17, own_k13_1, own_k13_2, own_k14_0, m14_14, own_k14_1, own_k14_2, own_k14_3, m15_0, m15_1u, m15_2, own_k15_0, own_k15_1, m15_39, own_k15_2, own_k16_0, own_k17_0, own_k18_0, own_k19_0, own_k20_0, own_k21_0, own_k22_0, own_k32_0, own_k33_0, own_k34_0, m34_13, own_k34_1, own_k34_2, own_k35_0, own_k36_0, own_k38_0, own_k38_1, own_k38_2, own_k38_3, own_k38_4, own_k38_5, own_k38_6, own_k38_7, own_k38_8, own_k38_9, own_k38_10, own_k38_11, own_k38_12, own_k38_13, own_k38_14, own_k38_15, m38_496, m38_497, nb0, nb1, ou_a, Option.toList_some, Option.toList_none, List.nil_append, List.cons_append, inB_iff, setA_len, getA_set2, ou_same, ou_comm, setA_same, lt_irr]
    exact hQ _ _ iv.1
  · simp [ou_a]
  · simp [ou_a]
  · simp [ou_a]
  · unfold S0
    simp [F3]
  · unfold S1
    simp [F3]
end Gate
theorem own_fin (s' : Nat → Int32) (A' : Nat → List Int32) (hl : ∀ i, (A' i).length = (A0 i).length) : (some (Value.int 1) : Option Value) = some (.int 1) ∧ (put 0 [] s' A' []).length - ([] : AHeap).length ≤ 56 ∧ tot tables_1 (put 0 [] s' A' []) - tot tables_1 [] ≤ 576 := by
  refine ⟨rfl, ?_, ?_⟩ <;> simp only [hl, put_len, put_tot, pad_0, tot_nil, List.length_nil, List.length_cons, A0l_0, A0l_1, A0l_2, A0l_3, A0l_4, A0l_5, A0l_6, A0l_7, A0l_8, A0l_9, A0l_10, A0l_11, A0l_12, A0l_13, A0l_14, A0l_15, A0l_16, A0l_17, A0l_18, A0l_19] <;> omega
theorem u37 {x k : Int32} {H : AHeap} {Q : Option Value → AHeap → Prop} (hk : ¬ k = 0) (hQ : Q (some (.int (uu x k))) H) : M37 0 [.val (.int x), .val (.int k), .unset] [] H Q := by
  unfold uu at hQ
  by_cases h : x % k < 0
  · rw [if_pos h] at hQ
    simp [h, hk, own_k37_0, nb0, nb1, ou_a, Option.toList_some, Option.toList_none, List.nil_append, List.cons_append]
    exact hQ
  · rw [if_neg h] at hQ
    simp [h, hk, own_k37_0, nb0, nb1, ou_a, Option.toList_some, Option.toList_none, List.nil_append, List.cons_append]
    exact hQ
set_option maxRecDepth 1000000 in
set_option maxHeartbeats 20000000 in
theorem own_gen (i0 i1 i2 i3 i4 i5 : Int32) {Q : Option Value → AHeap → Prop} (hQ : ∀ s' A', LN A' → Q (some (.int 1)) (put 0 [] s' A' [])) : M38 0 [.val (.int i0), .val (.int i1), .val (.int i2), .val (.int i3), .val (.int i4), .val (.int i5), .unset, .unset, .unset, .unset, .unset, .unset, .unset, .unset, .unset, .unset] [] [] Q := by
  have y0 := uu_bd i0 (k := 8) (by decide) (by decide)
  rw [i_8] at y0
  have e0 : (1 + uu i0 8).toInt = 1 + (uu i0 8).toInt := (add_i (by rw [i_1]; omega) (by rw [i_1]; omega)).trans (by rw [i_1])
  have y1 := uu_bd i1 (k := 1 + uu i0 8) (by omega) (by omega)
  have e1 : (1 + uu i1 (1 + uu i0 8)).toInt = 1 + (uu i1 (1 + uu i0 8)).toInt := (add_i (by rw [i_1]; omega) (by rw [i_1]; omega)).trans (by rw [i_1])
  have y2 := uu_bd i2 (k := 4) (by decide) (by decide)
  rw [i_4] at y2
  have e2 : (1 + uu i2 4).toInt = 1 + (uu i2 4).toInt := (add_i (by rw [i_1]; omega) (by rw [i_1]; omega)).trans (by rw [i_1])
  have y3 := uu_bd i3 (k := 8) (by decide) (by decide)
  rw [i_8] at y3
  have e3 : (1 + uu i0 8 + uu i3 8).toInt = (1 + uu i0 8).toInt + (uu i3 8).toInt := add_i (by omega) (by omega)
  have y4 := uu_bd i4 (k := 8) (by decide) (by decide)
  rw [i_8] at y4
  have e4 : (1 + uu i2 4 + uu i4 8).toInt = (1 + uu i2 4).toInt + (uu i4 8).toInt := add_i (by omega) (by omega)
  have y5 := uu_bd i5 (k := 4) (by decide) (by decide)
  rw [i_4] at y5
  have r4 : uu i5 4 = 0 ∨ uu i5 4 = 1 ∨ uu i5 4 = 2 ∨ uu i5 4 = 3 := by
    have z : (uu i5 4).toInt = 0 ∨ (uu i5 4).toInt = 1 ∨ (uu i5 4).toInt = 2 ∨ (uu i5 4).toInt = 3 := by omega
    rcases z with z | z | z | z
    · exact Or.inl (Int32.toInt_inj.mp z)
    · exact Or.inr (Or.inl (Int32.toInt_inj.mp z))
    · exact Or.inr (Or.inr (Or.inl (Int32.toInt_inj.mp z)))
    · exact Or.inr (Or.inr (Or.inr (Int32.toInt_inj.mp z)))
  have nz : ¬ 1 + uu i0 8 = 0 := fun q => by rw [q, i_0] at e0; omega
  simp [m38_0, m38_1, m38_2, m38_4, nb0, nb1, ou_a, Option.toList_some, Option.toList_none, List.nil_append, List.cons_append]
  refine u37 (by decide) ?_
  simp [m38_7, m38_8u, m38_10, m38_11, m38_12, m38_14, nb0, nb1, ou_a, Option.toList_some, Option.toList_none, List.nil_append, List.cons_append]
  refine u37 nz ?_
  simp [m38_17, m38_18u, m38_20, m38_21, m38_22, m38_23, nb0, nb1, ou_a, Option.toList_some, Option.toList_none, List.nil_append, List.cons_append]
  refine u37 (by decide) ?_
  simp [m38_26, m38_27u, m38_29, m38_31, m38_32, m38_34, nb0, nb1, ou_a, Option.toList_some, Option.toList_none, List.nil_append, List.cons_append]
  refine u37 (by decide) ?_
  simp [m38_37, m38_38u, m38_40, m38_42, m38_44, m38_46, nb0, nb1, ou_a, Option.toList_some, Option.toList_none, List.nil_append, List.cons_append]
  refine u37 (by decide) ?_
  simp [m38_49, m38_50u, m38_52, m38_54, m38_55, nb0, nb1, ou_a, Option.toList_some, Option.toList_none, List.nil_append, List.cons_append]
  refine u37 (by decide) ?_
  simp [m38_58u, nb0, nb1, ou_a, Option.toList_some, Option.toList_none, List.nil_append, List.cons_append]
  rcases r4 with z | z | z | z
  · rw [z]
    exact own_mid0 (by omega) (by omega) (by omega) (by omega) (by omega) (by omega) (by omega) (by omega) (by omega) (by omega) hQ
  · rw [z]
    exact own_mid1 (by omega) (by omega) (by omega) (by omega) (by omega) (by omega) (by omega) (by omega) (by omega) (by omega) hQ
  · rw [z]
    exact own_mid2 (by omega) (by omega) (by omega) (by omega) (by omega) (by omega) (by omega) (by omega) (by omega) (by omega) hQ
  · rw [z]
    exact own_mid3 (by omega) (by omega) (by omega) (by omega) (by omega) (by omega) (by omega) (by omega) (by omega) (by omega) hQ
set_option maxRecDepth 1000000 in
set_option maxHeartbeats 20000000 in
theorem own_law (i0 : Int32) (i1 : Int32) (i2 : Int32) (i3 : Int32) (i4 : Int32) (i5 : Int32) : W tables_1 dn 0 x code ret 0 (entry [.int i0, .int i1, .int i2, .int i3, .int i4, .int i5] maxLocals) [] [] (fun v H1 => v = some (.int 1) ∧ H1.length - ([] : AHeap).length ≤ 56 ∧ tot tables_1 H1 - tot tables_1 [] ≤ 576) := by
  show M38 0 [.val (.int i0), .val (.int i1), .val (.int i2), .val (.int i3), .val (.int i4), .val (.int i5), .unset, .unset, .unset, .unset, .unset, .unset, .unset, .unset, .unset, .unset] [] [] _
  exact own_gen _ _ _ _ _ _ (fun s' A' h => own_fin s' A' h)
theorem own_dn : ∀ f' l', dnOf dn x = some (f', l') → f' ≤ room_1.frames ∧ l' ≤ room_1.locals := by
  have h : dnOf dn x = some (4, 70) := by decide +kernel
  intro f' l' q; rw [h] at q; cases q; decide
theorem own_pn : Jvm.plainName x.cls = true := by first | (simp [Jvm.plainName, overriddenIn, x]; done) | decide +kernel
theorem own_rm (l : Launch) (Z : State) (a0 : Array Value) (hw : ∀ d ∈ tables_1, d.before a0 Z = true) (i0 : Int32) (i1 : Int32) (i2 : Int32) (i3 : Int32) (i4 : Int32) (i5 : Int32) (h : Heap) :
    MetFree l x (head1 (Jvm.Cond.code x code maxLocals ret :: tables_1) room_1) (fun a U => a = #[.int i0, .int i1, .int i2, .int i3, .int i4, .int i5] ∧ Z.Warmed39 U.vm ∧ U.heap = h) (fun _ _ _ _ _ => True) (fun _ U o U' => ∃ w L, o = .returned w ∧ (w = some (.int 1) ∧ Fr h.size L) ∧ FrameEnd U o U' L 56 576) :=
  law_of (as := [.int i0, .int i1, .int i2, .int i3, .int i4, .int i5]) (mx := maxLocals) (f := room_1.frames) (lc := room_1.locals) hw l tables_1 own_pn (by show 6 ≤ 16; omega) (own_law i0 i1 i2 i3 i4 i5) own_dn (Sim.empty Z tables_1 h)
set_option maxRecDepth 65536 in
set_option maxHeartbeats 40000000 in
theorem comes_1 {Post : Tables → Env → Array Value → State → Outcome → State → Prop} (hpost : ∀ tb e args s v u, (limb_1_1.after args s (.returned v) u = true ∧ limb_1_2.after args s (.returned v) u = true ∧ True) → FrameEnd s (.returned v) u (Jvm.fieldLocs frame_1_writes args s ++ Jvm.arrayLocs frame_1_arrays args s ++ Jvm.staticLocs frame_1_statics s) 56 576 → Post tb e args s (.returned v) u) :
    ArmFor flags0 classFile x code maxLocals ret World_1 tables_1 room_1 Calls_1 rest_1 Pre_1 Post := by
  intro l hfl _ _ p e ha hc hk s m args below hf hA hF happ hP
  obtain ⟨hcalls, hrest, hpre⟩ := hP
  obtain ⟨-, -, -, hnamed, -, -, -, hat⟩ := (Spec.applies_iff hf).mp happ
  obtain ⟨hg, hn⟩ := and_e (Cond.before_iff.mp (show (Jvm.Cond.and given_1 narrow_1).before args s = true from hpre))
  obtain ⟨g0, t0⟩ := and_e hg
  obtain ⟨q0, t1⟩ := and_e t0
  obtain ⟨q1, t2⟩ := and_e t1
  obtain ⟨q2, t3⟩ := and_e t2
  obtain ⟨q3, t4⟩ := and_e t3
  obtain ⟨q4, t5⟩ := and_e t4
  have q5 := t5
  obtain ⟨w0, w1, w2, w3, w4, w5, rfl⟩ : ∃ w0 w1 w2 w3 w4 w5 : Value, args = #[w0, w1, w2, w3, w4, w5] := by
    have hs : args.size = 6 := by simpa [Cond.value, given_1] using g0
    obtain ⟨L⟩ := args
    match L, hs with
    | [w0, w1, w2, w3, w4, w5], _ => exact ⟨w0, w1, w2, w3, w4, w5, rfl⟩
  have hw := fun d (hd : d ∈ tables_1) => atoms_spec (ws := Jvm.Cond.code x code maxLocals ret :: tables_1) hat d (List.mem_cons_of_mem _ hd)
  obtain ⟨i0, ei0⟩ := is_v q0
  obtain rfl : w0 = (.int i0) := Option.some.inj ei0
  obtain ⟨i1, ei1⟩ := is_v q1
  obtain rfl : w1 = (.int i1) := Option.some.inj ei1
  obtain ⟨i2, ei2⟩ := is_v q2
  obtain rfl : w2 = (.int i2) := Option.some.inj ei2
  obtain ⟨i3, ei3⟩ := is_v q3
  obtain rfl : w3 = (.int i3) := Option.some.inj ei3
  obtain ⟨i4, ei4⟩ := is_v q4
  obtain rfl : w4 = (.int i4) := Option.some.inj ei4
  obtain ⟨i5, ei5⟩ := is_v q5
  obtain rfl : w5 = (.int i5) := Option.some.inj ei5
  obtain ⟨n, o, h1, h2, h3, _, L, rfl, ⟨rfl, N⟩, hq⟩ := own_rm l s _ hw i0 i1 i2 i3 i4 i5 s.heap p e ha hc hk s m _ below hf ((Spec.applies_iff_loose hf).mp happ).1 ⟨rfl, State.Warmed39.refl s, rfl⟩ trivial
  exact ⟨n, _, h1, h2, h3, hpost _ _ _ _ _ _ ⟨Cond.after_iff.mpr rfl, Cond.after_iff.mpr (eq_i res_at (Term.int_eval (1)) rfl), trivial⟩ ⟨hq.1, hq.2.1, (hq.2.2.sift fun y hy => Or.inr (N y hy)).mono (by decide) (by decide)⟩⟩
theorem main_1_1 : Claimed_1_1 := comes_1 fun _ _ _ _ _ _ h hF => ⟨h.1, hF⟩
theorem main_1_2 : Claimed_1_2 := comes_1 fun _ _ _ _ _ _ h hF => ⟨h.2.1, hF⟩
end Jvm.Pilot.@@N@@
namespace Jvm.Pilot.@@N@@
open Jvm Jvm.ClassFile Sem Op Lib Jvm.Free Jvm.Stand Jvm.Pilot.@@N@@.Jvm.D
/-! MADE BY PROGRAM (witnessworld.py) out of the Statement's table words and the real class files: 11 classes; the members and pool entries that the words name. The judged class is class 1, her method 2. -/
namespace start1
open Jvm.ClassFile
def u (s : String) : CpInfo := .utf8 (stringToUtf16 s)
/-- a pool by its gaps: so many unusable entries, then the entry; so many at the end -/
def gap : Nat → List CpInfo → List CpInfo
  | 0, r => r
  | n + 1, r => .unusable :: gap n r
def poolList (es : List (Nat × CpInfo)) (last : Nat) : List CpInfo := es.foldr (fun e r => gap e.1 (e.2 :: r)) (gap last [])
def pool (es : List (Nat × CpInfo)) (last : Nat) : Array CpInfo := ⟨poolList es last⟩
def fileOf (pool : Array CpInfo) (this : Nat) (attrs : Array Attribute := #[]) (ms : Array MethodInfo := #[]) (fl : Nat := 33) (sup : Nat := 0) (ifs : Array Nat := #[]) (fds : Array FieldInfo := #[]) : ClassFile where
  minorVersion := 0
  majorVersion := 65
  constantPool := pool
  accessFlags := fl
  thisClass := this
  superClass := sup
  interfaces := ifs
  fields := fds
  methods := ms
  attributes := attrs
def plain (name : String) (sup : Option ClassId) : Class where
  name := name
  kind := .ordinary
  loader := none
  accessFlags := 33
  super := sup
  interfaces := #[]
  cf := none
  fields := #[]
  methods := #[]
  instanceTypes := #[]
  staticTypes := #[]
  resolved := #[]
  callSites := []
  init := .initialized
  statics := none
  mirror := none

def pool0 : Array CpInfo := pool [(5, u "<init>"), (0, u "()V"), (1, .class_ 10), (1, u "java/lang/Object")] 113

def k0c0 : Code := { maxStack := 0, maxLocals := 1, code := object_method_1_code, exceptionTable := #[], attributes := #[] }
def k0m0 : Method := { name := "<init>", desc := "()V", sig := { parameters := [], returnType := none }, accessFlags := 1, code := some k0c0 }
/-- java/lang/Object -/
def k0 : Class := { plain "java/lang/Object" none with
  accessFlags := 33
  interfaces := #[]
  cf := some (fileOf pool0 8 #[] #[{ accessFlags := 1, nameIndex := 5, descriptorIndex := 6, attributes := #[] }] 33 0 #[] #[])
  fields := #[]
  methods := #[k0m0]
  instanceTypes := #[]
  staticTypes := #[]
  resolved := Array.replicate 124 none
  statics := none }

def pool1 : Array CpInfo := pool [(2, .class_ 4), (1, u "java/lang/Object"), (0, u "<init>"), (0, u "()V"), (0, .methodref 8 9), (0, .class_ 10), (0, .nameAndType 11 12), (0, u "ResponseTimeGateL3"), (0, u "u"), (0, u "(II)I"), (0, .class_ 14), (0, u "ResponseTimeGate"), (0, .methodref 13 16), (0, .nameAndType 5 17), (0, u "(I)V"), (0, .methodref 13 19), (0, .nameAndType 20 21), (0, u "beginTask"), (0, u "(IIII)I"), (0, .methodref 13 23), (0, .nameAndType 24 25), (0, u "addSection"), (0, u "(III)I"), (0, .methodref 13 27), (0, .nameAndType 28 29), (0, u "commitTask"), (0, u "()I"), (0, .methodref 13 31), (0, .nameAndType 32 29), (0, u "failedTask"), (0, .methodref 13 34), (0, .nameAndType 35 29), (0, u "taskCount"), (0, .methodref 13 37), (0, .nameAndType 38 39), (0, u "bound"), (0, u "(I)I"), (0, .methodref 13 41), (0, .nameAndType 42 39), (0, u "blocking"), (0, .methodref 13 44), (0, .nameAndType 45 39), (0, u "ceiling"), (0, .methodref 13 47), (0, .nameAndType 48 29), (0, u "hyperperiod"), (0, .methodref 13 50), (0, .nameAndType 51 39), (0, u "run"), (0, .methodref 13 53), (0, .nameAndType 54 29), (0, u "time"), (0, .methodref 13 56), (0, .nameAndType 57 29), (0, u "misses"), (0, .methodref 13 59), (0, .nameAndType 60 39), (0, u "holder"), (0, .methodref 13 62), (0, .nameAndType 63 39), (0, u "jobsDone"), (0, .methodref 13 65), (0, .nameAndType 66 39), (0, u "maxResponse"), (3, u "law"), (0, u "(IIIIII)Z")] 2

def k1m0 : Method := { name := "<init>", desc := "()V", sig := { parameters := [], returnType := none }, accessFlags := 1, code := none }
def k1c1 : Code := { maxStack := 2, maxLocals := 3, code := method_2_code, exceptionTable := #[], attributes := #[] }
def k1m1 : Method := { name := "u", desc := "(II)I", sig := { parameters := [.int, .int], returnType := some .int }, accessFlags := 10, code := some k1c1 }
def k1c2 : Code := { maxStack := 5, maxLocals := 16, code := code, exceptionTable := #[], attributes := #[] }
def k1m2 : Method := { name := "law", desc := "(IIIIII)Z", sig := { parameters := [.int, .int, .int, .int, .int, .int], returnType := some .boolean }, accessFlags := 9, code := some k1c2 }
/-- ResponseTimeGateL3 -/
def k1 : Class := { plain "ResponseTimeGateL3" (some 0) with
  accessFlags := 49
  interfaces := #[]
  cf := some (fileOf pool1 8 #[] #[{ accessFlags := 1, nameIndex := 5, descriptorIndex := 6, attributes := #[] }, { accessFlags := 10, nameIndex := 11, descriptorIndex := 12, attributes := #[] }, { accessFlags := 9, nameIndex := 70, descriptorIndex := 71, attributes := #[] }] 49 2 #[] #[])
  fields := #[]
  methods := #[k1m0, k1m1, k1m2]
  instanceTypes := #[]
  staticTypes := #[]
  resolved := Array.replicate 74 none
  statics := none }

def pool2 : Array CpInfo := pool [(1, .methodref 2 3), (0, .class_ 4), (0, .nameAndType 5 6), (0, u "java/lang/Object"), (0, u "<init>"), (0, u "()V"), (0, .fieldref 8 9), (0, .class_ 10), (0, .nameAndType 11 12), (0, u "ResponseTimeGate"), (0, u "per"), (0, u "[I"), (0, .fieldref 8 14), (0, .nameAndType 15 12), (0, u "dl"), (0, .fieldref 8 17), (0, .nameAndType 18 12), (0, u "wc"), (0, .fieldref 8 20), (0, .nameAndType 21 12), (0, u "pr"), (0, .fieldref 8 23), (0, .nameAndType 24 12), (0, u "secS"), (0, .fieldref 8 26), (0, .nameAndType 27 12), (0, u "secL"), (0, .fieldref 8 29), (0, .nameAndType 30 12), (0, u "bnd"), (0, .fieldref 8 32), (0, .nameAndType 33 12), (0, u "blk"), (0, .fieldref 8 35), (0, .nameAndType 36 12), (0, u "ceil"), (0, .fieldref 8 38), (0, .nameAndType 39 12), (0, u "stS"), (0, .fieldref 8 41), (0, .nameAndType 42 12), (0, u "stL"), (0, .fieldref 8 44), (0, .nameAndType 45 12), (0, u "candCeil"), (0, .fieldref 8 47), (0, .nameAndType 48 12), (0, u "candB"), (0, .fieldref 8 50), (0, .nameAndType 51 12), (0, u "candR"), (0, .fieldref 8 53), (0, .nameAndType 54 55), (0, u "pend"), (0, u "[Z"), (0, .fieldref 8 57), (0, .nameAndType 58 12), (0, u "rel"), (0, .fieldref 8 60), (0, .nameAndType 61 12), (0, u "prog"), (0, .fieldref 8 63), (0, .nameAndType 64 12), (0, u "held"), (0, .fieldref 8 66), (0, .nameAndType 67 12), (0, u "done"), (0, .fieldref 8 69), (0, .nameAndType 70 12), (0, u "maxR"), (0, .fieldref 8 72), (0, .nameAndType 73 74), (0, u "cap"), (0, u "I"), (0, .fieldref 8 76), (0, .nameAndType 77 74), (0, u "count"), (0, .fieldref 8 79), (0, .nameAndType 80 81), (0, u "staged"), (0, u "Z"), (0, .fieldref 8 83), (0, .nameAndType 84 74), (0, u "failed"), (0, .fieldref 8 86), (0, .nameAndType 87 74), (0, u "hyper"), (0, .methodref 8 89), (0, .nameAndType 90 6), (0, u "resetSim"), (0, .methodref 8 92), (0, .nameAndType 93 94), (0, u "priorityTaken"), (0, u "(I)Z"), (0, .fieldref 8 96), (0, .nameAndType 97 74), (0, u "stT"), (0, .fieldref 8 99), (0, .nameAndType 100 74), (0, u "stD"), (0, .fieldref 8 102), (0, .nameAndType 103 74), (0, u "stC"), (0, .fieldref 8 105), (0, .nameAndType 106 74), (0, u "stP"), (0, .methodref 8 108), (0, .nameAndType 109 110), (0, u "overlapsStaged"), (0, u "(II)Z"), (0, .methodref 8 112), (0, .nameAndType 113 114), (0, u "lcmWith"), (0, u "(II)I"), (0, .methodref 8 116), (0, .nameAndType 117 118), (0, u "placeStaged"), (0, u "(I)V"), (0, .methodref 8 120), (0, .nameAndType 121 122), (0, u "analyze"), (0, u "(I)I"), (0, .methodref 8 124), (0, .nameAndType 125 118), (0, u "adoptResults"), (0, .methodref 8 127), (0, .nameAndType 128 114), (0, u "gcd"), (0, .methodref 8 130), (0, .nameAndType 131 118), (0, u "computeCeilings"), (0, .methodref 8 133), (0, .nameAndType 134 114), (0, u "blockingOf"), (0, .methodref 8 136), (0, .nameAndType 137 138), (0, u "responseOf"), (0, u "(III)I"), (0, .methodref 8 140), (0, .nameAndType 141 138), (0, u "interference"), (0, .methodref 8 143), (0, .nameAndType 144 94), (0, u "admitted"), (0, .fieldref 8 146), (0, .nameAndType 147 74), (0, u "now"), (0, .fieldref 8 149), (0, .nameAndType 150 74), (0, u "missCount"), (0, .methodref 8 152), (0, .nameAndType 153 6), (0, u "tick"), (0, .methodref 8 155), (0, .nameAndType 156 6), (0, u "releaseJobs"), (0, .methodref 8 158), (0, .nameAndType 159 160), (0, u "pickRunning"), (0, u "()I"), (0, .methodref 8 162), (0, .nameAndType 163 118), (0, u "executeUnit"), (0, .methodref 8 165), (0, .nameAndType 166 6), (0, u "checkMisses"), (0, .methodref 8 168), (0, .nameAndType 169 122), (0, u "activePriority"), (0, .methodref 8 171), (0, .nameAndType 172 118), (0, u "takeResourceIfStart"), (0, .methodref 8 174), (0, .nameAndType 175 118), (0, u "completeJob"), (0, u "MAX_TASKS"), (2, u "RESOURCES"), (1, u "MAX_PERIOD"), (1, u "HYPER_LIMIT"), (0, u "MAX_PRIORITY"), (1, u "MAX_RUN"), (0, u "OK"), (1, u "ERR_FULL"), (1, u "ERR_BAD_ARG"), (1, u "ERR_PRIORITY"), (1, u "ERR_NO_STAGED"), (1, u "ERR_SECTION"), (1, u "REJ_HYPER"), (1, u "REJ_DEADLINE"), (4, u "beginTask"), (0, u "(IIII)I"), (0, u "addSection"), (0, u "commitTask"), (0, u "taskCount"), (0, u "bound"), (0, u "blocking"), (0, u "ceiling"), (0, u "hyperperiod"), (0, u "failedTask"), (0, u "run"), (0, u "time"), (0, u "maxResponse"), (0, u "jobsDone"), (0, u "misses"), (1, u "holder")] 2

def k2c0 : Code := { maxStack := 3, maxLocals := 4, code := prog_1_method_1_code, exceptionTable := #[], attributes := #[] }
def k2m0 : Method := { name := "<init>", desc := "(I)V", sig := { parameters := [.int], returnType := none }, accessFlags := 1, code := some k2c0 }
def k2c1 : Code := { maxStack := 3, maxLocals := 6, code := prog_1_method_2_code, exceptionTable := #[], attributes := #[] }
def k2m1 : Method := { name := "beginTask", desc := "(IIII)I", sig := { parameters := [.int, .int, .int, .int], returnType := some .int }, accessFlags := 1, code := some k2c1 }
def k2c2 : Code := { maxStack := 2, maxLocals := 3, code := prog_1_method_3_code, exceptionTable := #[], attributes := #[] }
def k2m2 : Method := { name := "priorityTaken", desc := "(I)Z", sig := { parameters := [.int], returnType := some .boolean }, accessFlags := 2, code := some k2c2 }
def k2c3 : Code := { maxStack := 3, maxLocals := 4, code := prog_1_method_4_code, exceptionTable := #[], attributes := #[] }
def k2m3 : Method := { name := "addSection", desc := "(III)I", sig := { parameters := [.int, .int, .int], returnType := some .int }, accessFlags := 1, code := some k2c3 }
def k2c4 : Code := { maxStack := 3, maxLocals := 6, code := prog_1_method_5_code, exceptionTable := #[], attributes := #[] }
def k2m4 : Method := { name := "overlapsStaged", desc := "(II)Z", sig := { parameters := [.int, .int], returnType := some .boolean }, accessFlags := 2, code := some k2c4 }
def k2c5 : Code := { maxStack := 3, maxLocals := 4, code := prog_1_method_6_code, exceptionTable := #[], attributes := #[] }
def k2m5 : Method := { name := "commitTask", desc := "()I", sig := { parameters := [], returnType := some .int }, accessFlags := 1, code := some k2c5 }
def k2c6 : Code := { maxStack := 4, maxLocals := 3, code := prog_1_method_7_code, exceptionTable := #[], attributes := #[] }
def k2m6 : Method := { name := "placeStaged", desc := "(I)V", sig := { parameters := [.int], returnType := none }, accessFlags := 2, code := some k2c6 }
def k2c7 : Code := { maxStack := 4, maxLocals := 3, code := prog_1_method_8_code, exceptionTable := #[], attributes := #[] }
def k2m7 : Method := { name := "adoptResults", desc := "(I)V", sig := { parameters := [.int], returnType := none }, accessFlags := 2, code := some k2c7 }
def k2c8 : Code := { maxStack := 2, maxLocals := 7, code := prog_1_method_9_code, exceptionTable := #[], attributes := #[] }
def k2m8 : Method := { name := "gcd", desc := "(II)I", sig := { parameters := [.int, .int], returnType := some .int }, accessFlags := 2, code := some k2c8 }
def k2c9 : Code := { maxStack := 3, maxLocals := 4, code := prog_1_method_10_code, exceptionTable := #[], attributes := #[] }
def k2m9 : Method := { name := "lcmWith", desc := "(II)I", sig := { parameters := [.int, .int], returnType := some .int }, accessFlags := 2, code := some k2c9 }
def k2c10 : Code := { maxStack := 4, maxLocals := 5, code := prog_1_method_11_code, exceptionTable := #[], attributes := #[] }
def k2m10 : Method := { name := "analyze", desc := "(I)I", sig := { parameters := [.int], returnType := some .int }, accessFlags := 2, code := some k2c10 }
def k2c11 : Code := { maxStack := 3, maxLocals := 5, code := prog_1_method_12_code, exceptionTable := #[], attributes := #[] }
def k2m11 : Method := { name := "computeCeilings", desc := "(I)V", sig := { parameters := [.int], returnType := none }, accessFlags := 2, code := some k2c11 }
def k2c12 : Code := { maxStack := 3, maxLocals := 8, code := prog_1_method_13_code, exceptionTable := #[], attributes := #[] }
def k2m12 : Method := { name := "blockingOf", desc := "(II)I", sig := { parameters := [.int, .int], returnType := some .int }, accessFlags := 2, code := some k2c12 }
def k2c13 : Code := { maxStack := 5, maxLocals := 8, code := prog_1_method_14_code, exceptionTable := #[], attributes := #[] }
def k2m13 : Method := { name := "responseOf", desc := "(III)I", sig := { parameters := [.int, .int, .int], returnType := some .int }, accessFlags := 2, code := some k2c13 }
def k2c14 : Code := { maxStack := 4, maxLocals := 8, code := prog_1_method_15_code, exceptionTable := #[], attributes := #[] }
def k2m14 : Method := { name := "interference", desc := "(III)I", sig := { parameters := [.int, .int, .int], returnType := some .int }, accessFlags := 2, code := some k2c14 }
def k2c15 : Code := { maxStack := 2, maxLocals := 2, code := prog_1_method_16_code, exceptionTable := #[], attributes := #[] }
def k2m15 : Method := { name := "admitted", desc := "(I)Z", sig := { parameters := [.int], returnType := some .boolean }, accessFlags := 2, code := some k2c15 }
def k2c16 : Code := { maxStack := 1, maxLocals := 1, code := prog_1_method_17_code, exceptionTable := #[], attributes := #[] }
def k2m16 : Method := { name := "taskCount", desc := "()I", sig := { parameters := [], returnType := some .int }, accessFlags := 1, code := some k2c16 }
def k2c17 : Code := { maxStack := 2, maxLocals := 2, code := prog_1_method_18_code, exceptionTable := #[], attributes := #[] }
def k2m17 : Method := { name := "bound", desc := "(I)I", sig := { parameters := [.int], returnType := some .int }, accessFlags := 1, code := some k2c17 }
def k2c18 : Code := { maxStack := 2, maxLocals := 2, code := prog_1_method_19_code, exceptionTable := #[], attributes := #[] }
def k2m18 : Method := { name := "blocking", desc := "(I)I", sig := { parameters := [.int], returnType := some .int }, accessFlags := 1, code := some k2c18 }
def k2c19 : Code := { maxStack := 2, maxLocals := 2, code := prog_1_method_20_code, exceptionTable := #[], attributes := #[] }
def k2m19 : Method := { name := "ceiling", desc := "(I)I", sig := { parameters := [.int], returnType := some .int }, accessFlags := 1, code := some k2c19 }
def k2c20 : Code := { maxStack := 1, maxLocals := 1, code := prog_1_method_21_code, exceptionTable := #[], attributes := #[] }
def k2m20 : Method := { name := "hyperperiod", desc := "()I", sig := { parameters := [], returnType := some .int }, accessFlags := 1, code := some k2c20 }
def k2c21 : Code := { maxStack := 1, maxLocals := 1, code := prog_1_method_22_code, exceptionTable := #[], attributes := #[] }
def k2m21 : Method := { name := "failedTask", desc := "()I", sig := { parameters := [], returnType := some .int }, accessFlags := 1, code := some k2c21 }
def k2c22 : Code := { maxStack := 3, maxLocals := 2, code := prog_1_method_23_code, exceptionTable := #[], attributes := #[] }
def k2m22 : Method := { name := "resetSim", desc := "()V", sig := { parameters := [], returnType := none }, accessFlags := 2, code := some k2c22 }
def k2c23 : Code := { maxStack := 2, maxLocals := 4, code := prog_1_method_24_code, exceptionTable := #[], attributes := #[] }
def k2m23 : Method := { name := "run", desc := "(I)I", sig := { parameters := [.int], returnType := some .int }, accessFlags := 1, code := some k2c23 }
def k2c24 : Code := { maxStack := 3, maxLocals := 2, code := prog_1_method_25_code, exceptionTable := #[], attributes := #[] }
def k2m24 : Method := { name := "tick", desc := "()V", sig := { parameters := [], returnType := none }, accessFlags := 2, code := some k2c24 }
def k2c25 : Code := { maxStack := 3, maxLocals := 3, code := prog_1_method_26_code, exceptionTable := #[], attributes := #[] }
def k2m25 : Method := { name := "releaseJobs", desc := "()V", sig := { parameters := [], returnType := none }, accessFlags := 2, code := some k2c25 }
def k2c26 : Code := { maxStack := 2, maxLocals := 3, code := prog_1_method_27_code, exceptionTable := #[], attributes := #[] }
def k2m26 : Method := { name := "activePriority", desc := "(I)I", sig := { parameters := [.int], returnType := some .int }, accessFlags := 2, code := some k2c26 }
def k2c27 : Code := { maxStack := 2, maxLocals := 7, code := prog_1_method_28_code, exceptionTable := #[], attributes := #[] }
def k2m27 : Method := { name := "pickRunning", desc := "()I", sig := { parameters := [], returnType := some .int }, accessFlags := 2, code := some k2c27 }
def k2c28 : Code := { maxStack := 3, maxLocals := 3, code := prog_1_method_29_code, exceptionTable := #[], attributes := #[] }
def k2m28 : Method := { name := "takeResourceIfStart", desc := "(I)V", sig := { parameters := [.int], returnType := none }, accessFlags := 2, code := some k2c28 }
def k2c29 : Code := { maxStack := 5, maxLocals := 3, code := prog_1_method_30_code, exceptionTable := #[], attributes := #[] }
def k2m29 : Method := { name := "executeUnit", desc := "(I)V", sig := { parameters := [.int], returnType := none }, accessFlags := 2, code := some k2c29 }
def k2c30 : Code := { maxStack := 4, maxLocals := 3, code := prog_1_method_31_code, exceptionTable := #[], attributes := #[] }
def k2m30 : Method := { name := "completeJob", desc := "(I)V", sig := { parameters := [.int], returnType := none }, accessFlags := 2, code := some k2c30 }
def k2c31 : Code := { maxStack := 3, maxLocals := 2, code := prog_1_method_32_code, exceptionTable := #[], attributes := #[] }
def k2m31 : Method := { name := "checkMisses", desc := "()V", sig := { parameters := [], returnType := none }, accessFlags := 2, code := some k2c31 }
def k2c32 : Code := { maxStack := 1, maxLocals := 1, code := prog_1_method_33_code, exceptionTable := #[], attributes := #[] }
def k2m32 : Method := { name := "time", desc := "()I", sig := { parameters := [], returnType := some .int }, accessFlags := 1, code := some k2c32 }
def k2c33 : Code := { maxStack := 2, maxLocals := 2, code := prog_1_method_34_code, exceptionTable := #[], attributes := #[] }
def k2m33 : Method := { name := "maxResponse", desc := "(I)I", sig := { parameters := [.int], returnType := some .int }, accessFlags := 1, code := some k2c33 }
def k2c34 : Code := { maxStack := 2, maxLocals := 2, code := prog_1_method_35_code, exceptionTable := #[], attributes := #[] }
def k2m34 : Method := { name := "jobsDone", desc := "(I)I", sig := { parameters := [.int], returnType := some .int }, accessFlags := 1, code := some k2c34 }
def k2c35 : Code := { maxStack := 1, maxLocals := 1, code := prog_1_method_36_code, exceptionTable := #[], attributes := #[] }
def k2m35 : Method := { name := "misses", desc := "()I", sig := { parameters := [], returnType := some .int }, accessFlags := 1, code := some k2c35 }
def k2c36 : Code := { maxStack := 2, maxLocals := 3, code := prog_1_method_38_code, exceptionTable := #[], attributes := #[] }
def k2m36 : Method := { name := "holder", desc := "(I)I", sig := { parameters := [.int], returnType := some .int }, accessFlags := 1, code := some k2c36 }
/-- ResponseTimeGate -/
def k2 : Class := { plain "ResponseTimeGate" (some 0) with
  accessFlags := 49
  interfaces := #[]
  cf := some (fileOf pool2 8 #[] #[{ accessFlags := 1, nameIndex := 5, descriptorIndex := 118, attributes := #[] }, { accessFlags := 1, nameIndex := 206, descriptorIndex := 207, attributes := #[] }, { accessFlags := 2, nameIndex := 93, descriptorIndex := 94, attributes := #[] }, { accessFlags := 1, nameIndex := 208, descriptorIndex := 138, attributes := #[] }, { accessFlags := 2, nameIndex := 109, descriptorIndex := 110, attributes := #[] }, { accessFlags := 1, nameIndex := 209, descriptorIndex := 160, attributes := #[] }, { accessFlags := 2, nameIndex := 117, descriptorIndex := 118, attributes := #[] }, { accessFlags := 2, nameIndex := 125, descriptorIndex := 118, attributes := #[] }, { accessFlags := 2, nameIndex := 128, descriptorIndex := 114, attributes := #[] }, { accessFlags := 2, nameIndex := 113, descriptorIndex := 114, attributes := #[] }, { accessFlags := 2, nameIndex := 121, descriptorIndex := 122, attributes := #[] }, { accessFlags := 2, nameIndex := 131, descriptorIndex := 118, attributes := #[] }, { accessFlags := 2, nameIndex := 134, descriptorIndex := 114, attributes := #[] }, { accessFlags := 2, nameIndex := 137, descriptorIndex := 138, attributes := #[] }, { accessFlags := 2, nameIndex := 141, descriptorIndex := 138, attributes := #[] }, { accessFlags := 2, nameIndex := 144, descriptorIndex := 94, attributes := #[] }, { accessFlags := 1, nameIndex := 210, descriptorIndex := 160, attributes := #[] }, { accessFlags := 1, nameIndex := 211, descriptorIndex := 122, attributes := #[] }, { accessFlags := 1, nameIndex := 212, descriptorIndex := 122, attributes := #[] }, { accessFlags := 1, nameIndex := 213, descriptorIndex := 122, attributes := #[] }, { accessFlags := 1, nameIndex := 214, descriptorIndex := 160, attributes := #[] }, { accessFlags := 1, nameIndex := 215, descriptorIndex := 160, attributes := #[] }, { accessFlags := 2, nameIndex := 90, descriptorIndex := 6, attributes := #[] }, { accessFlags := 1, nameIndex := 216, descriptorIndex := 122, attributes := #[] }, { accessFlags := 2, nameIndex := 153, descriptorIndex := 6, attributes := #[] }, { accessFlags := 2, nameIndex := 156, descriptorIndex := 6, attributes := #[] }, { accessFlags := 2, nameIndex := 169, descriptorIndex := 122, attributes := #[] }, { accessFlags := 2, nameIndex := 159, descriptorIndex := 160, attributes := #[] }, { accessFlags := 2, nameIndex := 172, descriptorIndex := 118, attributes := #[] }, { accessFlags := 2, nameIndex := 163, descriptorIndex := 118, attributes := #[] }, { accessFlags := 2, nameIndex := 175, descriptorIndex := 118, attributes := #[] }, { accessFlags := 2, nameIndex := 166, descriptorIndex := 6, attributes := #[] }, { accessFlags := 1, nameIndex := 217, descriptorIndex := 160, attributes := #[] }, { accessFlags := 1, nameIndex := 218, descriptorIndex := 122, attributes := #[] }, { accessFlags := 1, nameIndex := 219, descriptorIndex := 122, attributes := #[] }, { accessFlags := 1, nameIndex := 220, descriptorIndex := 160, attributes := #[] }, { accessFlags := 1, nameIndex := 222, descriptorIndex := 122, attributes := #[] }] 49 2 #[] #[{ accessFlags := 25, nameIndex := 176, descriptorIndex := 74, attributes := #[] }, { accessFlags := 25, nameIndex := 179, descriptorIndex := 74, attributes := #[] }, { accessFlags := 25, nameIndex := 181, descriptorIndex := 74, attributes := #[] }, { accessFlags := 25, nameIndex := 183, descriptorIndex := 74, attributes := #[] }, { accessFlags := 25, nameIndex := 184, descriptorIndex := 74, attributes := #[] }, { accessFlags := 25, nameIndex := 186, descriptorIndex := 74, attributes := #[] }, { accessFlags := 25, nameIndex := 187, descriptorIndex := 74, attributes := #[] }, { accessFlags := 25, nameIndex := 189, descriptorIndex := 74, attributes := #[] }, { accessFlags := 25, nameIndex := 191, descriptorIndex := 74, attributes := #[] }, { accessFlags := 25, nameIndex := 193, descriptorIndex := 74, attributes := #[] }, { accessFlags := 25, nameIndex := 195, descriptorIndex := 74, attributes := #[] }, { accessFlags := 25, nameIndex := 197, descriptorIndex := 74, attributes := #[] }, { accessFlags := 25, nameIndex := 199, descriptorIndex := 74, attributes := #[] }, { accessFlags := 25, nameIndex := 201, descriptorIndex := 74, attributes := #[] }, { accessFlags := 2, nameIndex := 73, descriptorIndex := 74, attributes := #[] }, { accessFlags := 2, nameIndex := 77, descriptorIndex := 74, attributes := #[] }, { accessFlags := 2, nameIndex := 11, descriptorIndex := 12, attributes := #[] }, { accessFlags := 2, nameIndex := 15, descriptorIndex := 12, attributes := #[] }, { accessFlags := 2, nameIndex := 18, descriptorIndex := 12, attributes := #[] }, { accessFlags := 2, nameIndex := 21, descriptorIndex := 12, attributes := #[] }, { accessFlags := 2, nameIndex := 24, descriptorIndex := 12, attributes := #[] }, { accessFlags := 2, nameIndex := 27, descriptorIndex := 12, attributes := #[] }, { accessFlags := 2, nameIndex := 30, descriptorIndex := 12, attributes := #[] }, { accessFlags := 2, nameIndex := 33, descriptorIndex := 12, attributes := #[] }, { accessFlags := 2, nameIndex := 36, descriptorIndex := 12, attributes := #[] }, { accessFlags := 2, nameIndex := 87, descriptorIndex := 74, attributes := #[] }, { accessFlags := 2, nameIndex := 84, descriptorIndex := 74, attributes := #[] }, { accessFlags := 2, nameIndex := 80, descriptorIndex := 81, attributes := #[] }, { accessFlags := 2, nameIndex := 97, descriptorIndex := 74, attributes := #[] }, { accessFlags := 2, nameIndex := 100, descriptorIndex := 74, attributes := #[] }, { accessFlags := 2, nameIndex := 103, descriptorIndex := 74, attributes := #[] }, { accessFlags := 2, nameIndex := 106, descriptorIndex := 74, attributes := #[] }, { accessFlags := 2, nameIndex := 39, descriptorIndex := 12, attributes := #[] }, { accessFlags := 2, nameIndex := 42, descriptorIndex := 12, attributes := #[] }, { accessFlags := 2, nameIndex := 45, descriptorIndex := 12, attributes := #[] }, { accessFlags := 2, nameIndex := 48, descriptorIndex := 12, attributes := #[] }, { accessFlags := 2, nameIndex := 51, descriptorIndex := 12, attributes := #[] }, { accessFlags := 2, nameIndex := 147, descriptorIndex := 74, attributes := #[] }, { accessFlags := 2, nameIndex := 150, descriptorIndex := 74, attributes := #[] }, { accessFlags := 2, nameIndex := 54, descriptorIndex := 55, attributes := #[] }, { accessFlags := 2, nameIndex := 58, descriptorIndex := 12, attributes := #[] }, { accessFlags := 2, nameIndex := 61, descriptorIndex := 12, attributes := #[] }, { accessFlags := 2, nameIndex := 64, descriptorIndex := 12, attributes := #[] }, { accessFlags := 2, nameIndex := 67, descriptorIndex := 12, attributes := #[] }, { accessFlags := 2, nameIndex := 70, descriptorIndex := 12, attributes := #[] }])
  fields := #[{ name := "MAX_TASKS", type := .int, accessFlags := 25, slot := 0, constantValue := 0 }, { name := "RESOURCES", type := .int, accessFlags := 25, slot := 1, constantValue := 0 }, { name := "MAX_PERIOD", type := .int, accessFlags := 25, slot := 2, constantValue := 0 }, { name := "HYPER_LIMIT", type := .int, accessFlags := 25, slot := 3, constantValue := 0 }, { name := "MAX_PRIORITY", type := .int, accessFlags := 25, slot := 4, constantValue := 0 }, { name := "MAX_RUN", type := .int, accessFlags := 25, slot := 5, constantValue := 0 }, { name := "OK", type := .int, accessFlags := 25, slot := 6, constantValue := 0 }, { name := "ERR_FULL", type := .int, accessFlags := 25, slot := 7, constantValue := 0 }, { name := "ERR_BAD_ARG", type := .int, accessFlags := 25, slot := 8, constantValue := 0 }, { name := "ERR_PRIORITY", type := .int, accessFlags := 25, slot := 9, constantValue := 0 }, { name := "ERR_NO_STAGED", type := .int, accessFlags := 25, slot := 10, constantValue := 0 }, { name := "ERR_SECTION", type := .int, accessFlags := 25, slot := 11, constantValue := 0 }, { name := "REJ_HYPER", type := .int, accessFlags := 25, slot := 12, constantValue := 0 }, { name := "REJ_DEADLINE", type := .int, accessFlags := 25, slot := 13, constantValue := 0 }, { name := "cap", type := .int, accessFlags := 2, slot := 0, constantValue := 0 }, { name := "count", type := .int, accessFlags := 2, slot := 1, constantValue := 0 }, { name := "per", type := (.array .int), accessFlags := 2, slot := 2, constantValue := 0 }, { name := "dl", type := (.array .int), accessFlags := 2, slot := 3, constantValue := 0 }, { name := "wc", type := (.array .int), accessFlags := 2, slot := 4, constantValue := 0 }, { name := "pr", type := (.array .int), accessFlags := 2, slot := 5, constantValue := 0 }, { name := "secS", type := (.array .int), accessFlags := 2, slot := 6, constantValue := 0 }, { name := "secL", type := (.array .int), accessFlags := 2, slot := 7, constantValue := 0 }, { name := "bnd", type := (.array .int), accessFlags := 2, slot := 8, constantValue := 0 }, { name := "blk", type := (.array .int), accessFlags := 2, slot := 9, constantValue := 0 }, { name := "ceil", type := (.array .int), accessFlags := 2, slot := 10, constantValue := 0 }, { name := "hyper", type := .int, accessFlags := 2, slot := 11, constantValue := 0 }, { name := "failed", type := .int, accessFlags := 2, slot := 12, constantValue := 0 }, { name := "staged", type := .boolean, accessFlags := 2, slot := 13, constantValue := 0 }, { name := "stT", type := .int, accessFlags := 2, slot := 14, constantValue := 0 }, { name := "stD", type := .int, accessFlags := 2, slot := 15, constantValue := 0 }, { name := "stC", type := .int, accessFlags := 2, slot := 16, constantValue := 0 }, { name := "stP", type := .int, accessFlags := 2, slot := 17, constantValue := 0 }, { name := "stS", type := (.array .int), accessFlags := 2, slot := 18, constantValue := 0 }, { name := "stL", type := (.array .int), accessFlags := 2, slot := 19, constantValue := 0 }, { name := "candCeil", type := (.array .int), accessFlags := 2, slot := 20, constantValue := 0 }, { name := "candB", type := (.array .int), accessFlags := 2, slot := 21, constantValue := 0 }, { name := "candR", type := (.array .int), accessFlags := 2, slot := 22, constantValue := 0 }, { name := "now", type := .int, accessFlags := 2, slot := 23, constantValue := 0 }, { name := "missCount", type := .int, accessFlags := 2, slot := 24, constantValue := 0 }, { name := "pend", type := (.array .boolean), accessFlags := 2, slot := 25, constantValue := 0 }, { name := "rel", type := (.array .int), accessFlags := 2, slot := 26, constantValue := 0 }, { name := "prog", type := (.array .int), accessFlags := 2, slot := 27, constantValue := 0 }, { name := "held", type := (.array .int), accessFlags := 2, slot := 28, constantValue := 0 }, { name := "done", type := (.array .int), accessFlags := 2, slot := 29, constantValue := 0 }, { name := "maxR", type := (.array .int), accessFlags := 2, slot := 30, constantValue := 0 }]
  methods := #[k2m0, k2m1, k2m2, k2m3, k2m4, k2m5, k2m6, k2m7, k2m8, k2m9, k2m10, k2m11, k2m12, k2m13, k2m14, k2m15, k2m16, k2m17, k2m18, k2m19, k2m20, k2m21, k2m22, k2m23, k2m24, k2m25, k2m26, k2m27, k2m28, k2m29, k2m30, k2m31, k2m32, k2m33, k2m34, k2m35, k2m36]
  instanceTypes := #[.int, .int, (.array .int), (.array .int), (.array .int), (.array .int), (.array .int), (.array .int), (.array .int), (.array .int), (.array .int), .int, .int, .boolean, .int, .int, .int, .int, (.array .int), (.array .int), (.array .int), (.array .int), (.array .int), .int, .int, (.array .boolean), (.array .int), (.array .int), (.array .int), (.array .int), (.array .int)]
  staticTypes := #[.int, .int, .int, .int, .int, .int, .int, .int, .int, .int, .int, .int, .int, .int]
  resolved := Array.replicate 225 none
  statics := none }

def pool3 : Array CpInfo := pool [(1, u "java/lang/Cloneable"), (0, .class_ 1), (0, u "java/lang/Object"), (0, .class_ 3)] 3

/-- java/lang/Cloneable -/
def k3 : Class := { plain "java/lang/Cloneable" (some 0) with
  accessFlags := 1537
  interfaces := #[]
  cf := some (fileOf pool3 2 #[] #[] 1537 4 #[] #[])
  fields := #[]
  methods := #[]
  instanceTypes := #[]
  staticTypes := #[]
  resolved := Array.replicate 8 none
  statics := none }

def pool4 : Array CpInfo := pool [(1, u "java/io/Serializable"), (0, .class_ 1), (0, u "java/lang/Object"), (0, .class_ 3)] 3

/-- java/io/Serializable -/
def k4 : Class := { plain "java/io/Serializable" (some 0) with
  accessFlags := 1537
  interfaces := #[]
  cf := some (fileOf pool4 2 #[] #[] 1537 4 #[] #[])
  fields := #[]
  methods := #[]
  instanceTypes := #[]
  staticTypes := #[]
  resolved := Array.replicate 8 none
  statics := none }

/-- the primitive boolean -/
def k5 : Class := { plain "boolean" none with kind := .primitive 'Z', accessFlags := 0x411 }
/-- [Z -/
def k6 : Class := { plain "[Z" (some 0) with kind := .array 5 .boolean, interfaces := #[3, 4], accessFlags := 1041 }

/-- the primitive byte -/
def k7 : Class := { plain "byte" none with kind := .primitive 'B', accessFlags := 0x411 }
/-- [B -/
def k8 : Class := { plain "[B" (some 0) with kind := .array 7 .byte, interfaces := #[3, 4], accessFlags := 1041 }

/-- the primitive int -/
def k9 : Class := { plain "int" none with kind := .primitive 'I', accessFlags := 0x411 }
/-- [I -/
def k10 : Class := { plain "[I" (some 0) with kind := .array 9 .int, interfaces := #[3, 4], accessFlags := 1041 }

def heap : Heap := #[]
def classes : Array Class := #[k0, k1, k2, k3, k4, k5, k6, k7, k8, k9, k10]
def interned : List (Array UInt16 × Addr) := []
def slotsUsed : Nat := 0
def theMethod : MethodId := ⟨1, 2⟩
def args0 : Array Value := #[.int 1, .int 2, .int 3, .int 4, .int 5, .int 6]
def aboutOver (below : List Frame) : State where
  vm := { classes := classes, interned := interned.toArray }
  heap := heap
  slotsUsed := slotsUsed
  threads := #[{ frames := .invoking theMethod args0 :: below }]
def below0 : List Frame := [.native { method := ⟨0, 0⟩, args := #[] }]
def about1 : State := aboutOver below0
def p0 : Program := .bare "" "" ""
def e0 : Env := launch0.env 0 0 0
theorem w_frames : about1.frames = Frame.invoking theMethod args0 :: below0 := rfl
set_option maxRecDepth 65536 in
theorem w_args : argsFit about1.vm theMethod args0 = true := by decide +kernel
set_option maxRecDepth 65536 in
theorem w_heap : heapFits about1 = true := by decide +kernel
set_option maxRecDepth 65536 in
theorem w_runnable : about1.curStatus? = some .runnable := by decide +kernel
set_option maxRecDepth 65536 in
theorem w_alone : about1.alone = true := by decide +kernel
set_option maxRecDepth 65536 in
theorem w_named : about1.methodNamed? x = some theMethod := by decide +kernel
set_option maxRecDepth 65536 in
theorem w_hears : about1.hears theMethod below0 = true := by decide +kernel
set_option maxRecDepth 65536 in
theorem w_ripe : about1.ripe theMethod args0 below0 = true := by decide +kernel
theorem w_running : about1.status = .running := rfl
set_option maxRecDepth 65536 in
theorem w_room : about1.hasRoom e0.platform room_1 = true :=
  launch0.hasRoom_least _ room_1 (by decide +kernel) (by decide +kernel) (by decide +kernel) (by decide +kernel) (by decide +kernel) (by decide +kernel)
theorem allAtoms_all (ts : List Jvm.Cond) (a : Array Jvm.Value) (st : Jvm.State) : (allAtoms ts).before a st = ts.all (fun c => c.before a st) := by
  induction ts with
  | nil => rfl
  | cons c t ih =>
    show (Jvm.Cond.and c (allAtoms t)).before a st = _
    rw [Jvm.Cond.before_and, ih, List.all_cons]
def words1 : List Jvm.Cond := Jvm.Cond.code x code maxLocals ret :: tables_1
/-- a 'code' word, met by the world's own term for the bytes: nothing is compared byte by byte -/
theorem code_word {y : MethodName} {bytes : ByteArray} {mx : Nat} {rt : Option FieldType} {a : Array Value} {s : State} {m : MethodId} {meth : Method} {c : Code} (h1 : s.methodNamed? y = some m) (h2 : s.vm.method? m = some meth) (h3 : meth.code = some c) (h4 : c.code = bytes)
    (h5 : (c.maxLocals == mx && c.exceptionTable.isEmpty && decide (c.maxStack ≤ mostOperands) && decide (meth.sig.returnType = rt) && !meth.locks && decide (parseMethodDescriptor y.desc = some meth.sig)) = true) : (Jvm.Cond.code y bytes mx rt).before a s = true := by
  simp only [Bool.and_eq_true, beq_iff_eq, Bool.not_eq_true', decide_eq_true_eq] at h5
  obtain ⟨⟨⟨⟨⟨g1, g2⟩, g3⟩, g4⟩, g5⟩, g6⟩ := h5
  simp [Cond.before, Cond.holds, Cond.value, h1, h2, h3, h4, g1, g2, g3, g4, g5, g6]
def isCode : Jvm.Cond → Bool
  | .code _ _ _ _ => true
  | _ => false
theorem all_split {L : List Jvm.Cond} {P : Jvm.Cond → Bool} (h1 : L.all (fun c => isCode c || P c) = true) (h2 : ∀ c ∈ L.filter isCode, P c = true) : L.all P = true := by
  refine List.all_eq_true.mpr fun c hc => ?_
  have h := List.all_eq_true.mp h1 c hc
  rcases Bool.eq_false_or_eq_true (isCode c) with hi | hi
  · exact h2 c (List.mem_filter.mpr ⟨hc, hi⟩)
  · simpa [hi] using h
set_option maxRecDepth 65536 in
theorem w_c0 : (Jvm.Cond.code x code maxLocals ret).before args0 about1 = true := code_word (m := ⟨1, 2⟩) (meth := k1m2) (c := k1c2) (by decide +kernel) rfl rfl rfl (by decide +kernel)
set_option maxRecDepth 65536 in
theorem w_c1 : (Jvm.Cond.code ({ cls := "ResponseTimeGateL3", name := "u", desc := "(II)I" } : Jvm.MethodName) method_2_code (3 : Nat) (Option.some Jvm.ClassFile.FieldType.int)).before args0 about1 = true := code_word (m := ⟨1, 1⟩) (meth := k1m1) (c := k1c1) (by decide +kernel) rfl rfl rfl (by decide +kernel)
set_option maxRecDepth 65536 in
theorem w_c2 : (Jvm.Cond.code ({ cls := "ResponseTimeGate", name := "<init>", desc := "(I)V" } : Jvm.MethodName) prog_1_method_1_code (4 : Nat) (Option.none : Option Jvm.ClassFile.FieldType)).before args0 about1 = true := code_word (m := ⟨2, 0⟩) (meth := k2m0) (c := k2c0) (by decide +kernel) rfl rfl rfl (by decide +kernel)
set_option maxRecDepth 65536 in
theorem w_c3 : (Jvm.Cond.code ({ cls := "java/lang/Object", name := "<init>", desc := "()V" } : Jvm.MethodName) object_method_1_code (1 : Nat) (Option.none : Option Jvm.ClassFile.FieldType)).before args0 about1 = true := code_word (m := ⟨0, 0⟩) (meth := k0m0) (c := k0c0) (by decide +kernel) rfl rfl rfl (by decide +kernel)
set_option maxRecDepth 65536 in
theorem w_c4 : (Jvm.Cond.code ({ cls := "ResponseTimeGate", name := "resetSim", desc := "()V" } : Jvm.MethodName) prog_1_method_23_code (2 : Nat) (Option.none : Option Jvm.ClassFile.FieldType)).before args0 about1 = true := code_word (m := ⟨2, 22⟩) (meth := k2m22) (c := k2c22) (by decide +kernel) rfl rfl rfl (by decide +kernel)
set_option maxRecDepth 65536 in
theorem w_c5 : (Jvm.Cond.code ({ cls := "ResponseTimeGate", name := "beginTask", desc := "(IIII)I" } : Jvm.MethodName) prog_1_method_2_code (6 : Nat) (Option.some Jvm.ClassFile.FieldType.int)).before args0 about1 = true := code_word (m := ⟨2, 1⟩) (meth := k2m1) (c := k2c1) (by decide +kernel) rfl rfl rfl (by decide +kernel)
set_option maxRecDepth 65536 in
theorem w_c6 : (Jvm.Cond.code ({ cls := "ResponseTimeGate", name := "priorityTaken", desc := "(I)Z" } : Jvm.MethodName) prog_1_method_3_code (3 : Nat) (Option.some Jvm.ClassFile.FieldType.boolean)).before args0 about1 = true := code_word (m := ⟨2, 2⟩) (meth := k2m2) (c := k2c2) (by decide +kernel) rfl rfl rfl (by decide +kernel)
set_option maxRecDepth 65536 in
theorem w_c7 : (Jvm.Cond.code ({ cls := "ResponseTimeGate", name := "addSection", desc := "(III)I" } : Jvm.MethodName) prog_1_method_4_code (4 : Nat) (Option.some Jvm.ClassFile.FieldType.int)).before args0 about1 = true := code_word (m := ⟨2, 3⟩) (meth := k2m3) (c := k2c3) (by decide +kernel) rfl rfl rfl (by decide +kernel)
set_option maxRecDepth 65536 in
theorem w_c8 : (Jvm.Cond.code ({ cls := "ResponseTimeGate", name := "overlapsStaged", desc := "(II)Z" } : Jvm.MethodName) prog_1_method_5_code (6 : Nat) (Option.some Jvm.ClassFile.FieldType.boolean)).before args0 about1 = true := code_word (m := ⟨2, 4⟩) (meth := k2m4) (c := k2c4) (by decide +kernel) rfl rfl rfl (by decide +kernel)
set_option maxRecDepth 65536 in
theorem w_c9 : (Jvm.Cond.code ({ cls := "ResponseTimeGate", name := "commitTask", desc := "()I" } : Jvm.MethodName) prog_1_method_6_code (4 : Nat) (Option.some Jvm.ClassFile.FieldType.int)).before args0 about1 = true := code_word (m := ⟨2, 5⟩) (meth := k2m5) (c := k2c5) (by decide +kernel) rfl rfl rfl (by decide +kernel)
set_option maxRecDepth 65536 in
theorem w_c10 : (Jvm.Cond.code ({ cls := "ResponseTimeGate", name := "lcmWith", desc := "(II)I" } : Jvm.MethodName) prog_1_method_10_code (4 : Nat) (Option.some Jvm.ClassFile.FieldType.int)).before args0 about1 = true := code_word (m := ⟨2, 9⟩) (meth := k2m9) (c := k2c9) (by decide +kernel) rfl rfl rfl (by decide +kernel)
set_option maxRecDepth 65536 in
theorem w_c11 : (Jvm.Cond.code ({ cls := "ResponseTimeGate", name := "gcd", desc := "(II)I" } : Jvm.MethodName) prog_1_method_9_code (7 : Nat) (Option.some Jvm.ClassFile.FieldType.int)).before args0 about1 = true := code_word (m := ⟨2, 8⟩) (meth := k2m8) (c := k2c8) (by decide +kernel) rfl rfl rfl (by decide +kernel)
set_option maxRecDepth 65536 in
theorem w_c12 : (Jvm.Cond.code ({ cls := "ResponseTimeGate", name := "placeStaged", desc := "(I)V" } : Jvm.MethodName) prog_1_method_7_code (3 : Nat) (Option.none : Option Jvm.ClassFile.FieldType)).before args0 about1 = true := code_word (m := ⟨2, 6⟩) (meth := k2m6) (c := k2c6) (by decide +kernel) rfl rfl rfl (by decide +kernel)
set_option maxRecDepth 65536 in
theorem w_c13 : (Jvm.Cond.code ({ cls := "ResponseTimeGate", name := "analyze", desc := "(I)I" } : Jvm.MethodName) prog_1_method_11_code (5 : Nat) (Option.some Jvm.ClassFile.FieldType.int)).before args0 about1 = true := code_word (m := ⟨2, 10⟩) (meth := k2m10) (c := k2c10) (by decide +kernel) rfl rfl rfl (by decide +kernel)
set_option maxRecDepth 65536 in
theorem w_c14 : (Jvm.Cond.code ({ cls := "ResponseTimeGate", name := "computeCeilings", desc := "(I)V" } : Jvm.MethodName) prog_1_method_12_code (5 : Nat) (Option.none : Option Jvm.ClassFile.FieldType)).before args0 about1 = true := code_word (m := ⟨2, 11⟩) (meth := k2m11) (c := k2c11) (by decide +kernel) rfl rfl rfl (by decide +kernel)
set_option maxRecDepth 65536 in
theorem w_c15 : (Jvm.Cond.code ({ cls := "ResponseTimeGate", name := "blockingOf", desc := "(II)I" } : Jvm.MethodName) prog_1_method_13_code (8 : Nat) (Option.some Jvm.ClassFile.FieldType.int)).before args0 about1 = true := code_word (m := ⟨2, 12⟩) (meth := k2m12) (c := k2c12) (by decide +kernel) rfl rfl rfl (by decide +kernel)
set_option maxRecDepth 65536 in
theorem w_c16 : (Jvm.Cond.code ({ cls := "ResponseTimeGate", name := "responseOf", desc := "(III)I" } : Jvm.MethodName) prog_1_method_14_code (8 : Nat) (Option.some Jvm.ClassFile.FieldType.int)).before args0 about1 = true := code_word (m := ⟨2, 13⟩) (meth := k2m13) (c := k2c13) (by decide +kernel) rfl rfl rfl (by decide +kernel)
set_option maxRecDepth 65536 in
theorem w_c17 : (Jvm.Cond.code ({ cls := "ResponseTimeGate", name := "interference", desc := "(III)I" } : Jvm.MethodName) prog_1_method_15_code (8 : Nat) (Option.some Jvm.ClassFile.FieldType.int)).before args0 about1 = true := code_word (m := ⟨2, 14⟩) (meth := k2m14) (c := k2c14) (by decide +kernel) rfl rfl rfl (by decide +kernel)
set_option maxRecDepth 65536 in
theorem w_c18 : (Jvm.Cond.code ({ cls := "ResponseTimeGate", name := "adoptResults", desc := "(I)V" } : Jvm.MethodName) prog_1_method_8_code (3 : Nat) (Option.none : Option Jvm.ClassFile.FieldType)).before args0 about1 = true := code_word (m := ⟨2, 7⟩) (meth := k2m7) (c := k2c7) (by decide +kernel) rfl rfl rfl (by decide +kernel)
set_option maxRecDepth 65536 in
theorem w_c19 : (Jvm.Cond.code ({ cls := "ResponseTimeGate", name := "failedTask", desc := "()I" } : Jvm.MethodName) prog_1_method_22_code (1 : Nat) (Option.some Jvm.ClassFile.FieldType.int)).before args0 about1 = true := code_word (m := ⟨2, 21⟩) (meth := k2m21) (c := k2c21) (by decide +kernel) rfl rfl rfl (by decide +kernel)
set_option maxRecDepth 65536 in
theorem w_c20 : (Jvm.Cond.code ({ cls := "ResponseTimeGate", name := "taskCount", desc := "()I" } : Jvm.MethodName) prog_1_method_17_code (1 : Nat) (Option.some Jvm.ClassFile.FieldType.int)).before args0 about1 = true := code_word (m := ⟨2, 16⟩) (meth := k2m16) (c := k2c16) (by decide +kernel) rfl rfl rfl (by decide +kernel)
set_option maxRecDepth 65536 in
theorem w_c21 : (Jvm.Cond.code ({ cls := "ResponseTimeGate", name := "bound", desc := "(I)I" } : Jvm.MethodName) prog_1_method_18_code (2 : Nat) (Option.some Jvm.ClassFile.FieldType.int)).before args0 about1 = true := code_word (m := ⟨2, 17⟩) (meth := k2m17) (c := k2c17) (by decide +kernel) rfl rfl rfl (by decide +kernel)
set_option maxRecDepth 65536 in
theorem w_c22 : (Jvm.Cond.code ({ cls := "ResponseTimeGate", name := "admitted", desc := "(I)Z" } : Jvm.MethodName) prog_1_method_16_code (2 : Nat) (Option.some Jvm.ClassFile.FieldType.boolean)).before args0 about1 = true := code_word (m := ⟨2, 15⟩) (meth := k2m15) (c := k2c15) (by decide +kernel) rfl rfl rfl (by decide +kernel)
set_option maxRecDepth 65536 in
theorem w_c23 : (Jvm.Cond.code ({ cls := "ResponseTimeGate", name := "blocking", desc := "(I)I" } : Jvm.MethodName) prog_1_method_19_code (2 : Nat) (Option.some Jvm.ClassFile.FieldType.int)).before args0 about1 = true := code_word (m := ⟨2, 18⟩) (meth := k2m18) (c := k2c18) (by decide +kernel) rfl rfl rfl (by decide +kernel)
set_option maxRecDepth 65536 in
theorem w_c24 : (Jvm.Cond.code ({ cls := "ResponseTimeGate", name := "ceiling", desc := "(I)I" } : Jvm.MethodName) prog_1_method_20_code (2 : Nat) (Option.some Jvm.ClassFile.FieldType.int)).before args0 about1 = true := code_word (m := ⟨2, 19⟩) (meth := k2m19) (c := k2c19) (by decide +kernel) rfl rfl rfl (by decide +kernel)
set_option maxRecDepth 65536 in
theorem w_c25 : (Jvm.Cond.code ({ cls := "ResponseTimeGate", name := "hyperperiod", desc := "()I" } : Jvm.MethodName) prog_1_method_21_code (1 : Nat) (Option.some Jvm.ClassFile.FieldType.int)).before args0 about1 = true := code_word (m := ⟨2, 20⟩) (meth := k2m20) (c := k2c20) (by decide +kernel) rfl rfl rfl (by decide +kernel)
set_option maxRecDepth 65536 in
theorem w_c26 : (Jvm.Cond.code ({ cls := "ResponseTimeGate", name := "run", desc := "(I)I" } : Jvm.MethodName) prog_1_method_24_code (4 : Nat) (Option.some Jvm.ClassFile.FieldType.int)).before args0 about1 = true := code_word (m := ⟨2, 23⟩) (meth := k2m23) (c := k2c23) (by decide +kernel) rfl rfl rfl (by decide +kernel)
set_option maxRecDepth 65536 in
theorem w_c27 : (Jvm.Cond.code ({ cls := "ResponseTimeGate", name := "tick", desc := "()V" } : Jvm.MethodName) prog_1_method_25_code (2 : Nat) (Option.none : Option Jvm.ClassFile.FieldType)).before args0 about1 = true := code_word (m := ⟨2, 24⟩) (meth := k2m24) (c := k2c24) (by decide +kernel) rfl rfl rfl (by decide +kernel)
set_option maxRecDepth 65536 in
theorem w_c28 : (Jvm.Cond.code ({ cls := "ResponseTimeGate", name := "releaseJobs", desc := "()V" } : Jvm.MethodName) prog_1_method_26_code (3 : Nat) (Option.none : Option Jvm.ClassFile.FieldType)).before args0 about1 = true := code_word (m := ⟨2, 25⟩) (meth := k2m25) (c := k2c25) (by decide +kernel) rfl rfl rfl (by decide +kernel)
set_option maxRecDepth 65536 in
theorem w_c29 : (Jvm.Cond.code ({ cls := "ResponseTimeGate", name := "pickRunning", desc := "()I" } : Jvm.MethodName) prog_1_method_28_code (7 : Nat) (Option.some Jvm.ClassFile.FieldType.int)).before args0 about1 = true := code_word (m := ⟨2, 27⟩) (meth := k2m27) (c := k2c27) (by decide +kernel) rfl rfl rfl (by decide +kernel)
set_option maxRecDepth 65536 in
theorem w_c30 : (Jvm.Cond.code ({ cls := "ResponseTimeGate", name := "activePriority", desc := "(I)I" } : Jvm.MethodName) prog_1_method_27_code (3 : Nat) (Option.some Jvm.ClassFile.FieldType.int)).before args0 about1 = true := code_word (m := ⟨2, 26⟩) (meth := k2m26) (c := k2c26) (by decide +kernel) rfl rfl rfl (by decide +kernel)
set_option maxRecDepth 65536 in
theorem w_c31 : (Jvm.Cond.code ({ cls := "ResponseTimeGate", name := "executeUnit", desc := "(I)V" } : Jvm.MethodName) prog_1_method_30_code (3 : Nat) (Option.none : Option Jvm.ClassFile.FieldType)).before args0 about1 = true := code_word (m := ⟨2, 29⟩) (meth := k2m29) (c := k2c29) (by decide +kernel) rfl rfl rfl (by decide +kernel)
set_option maxRecDepth 65536 in
theorem w_c32 : (Jvm.Cond.code ({ cls := "ResponseTimeGate", name := "takeResourceIfStart", desc := "(I)V" } : Jvm.MethodName) prog_1_method_29_code (3 : Nat) (Option.none : Option Jvm.ClassFile.FieldType)).before args0 about1 = true := code_word (m := ⟨2, 28⟩) (meth := k2m28) (c := k2c28) (by decide +kernel) rfl rfl rfl (by decide +kernel)
set_option maxRecDepth 65536 in
theorem w_c33 : (Jvm.Cond.code ({ cls := "ResponseTimeGate", name := "completeJob", desc := "(I)V" } : Jvm.MethodName) prog_1_method_31_code (3 : Nat) (Option.none : Option Jvm.ClassFile.FieldType)).before args0 about1 = true := code_word (m := ⟨2, 30⟩) (meth := k2m30) (c := k2c30) (by decide +kernel) rfl rfl rfl (by decide +kernel)
set_option maxRecDepth 65536 in
theorem w_c34 : (Jvm.Cond.code ({ cls := "ResponseTimeGate", name := "checkMisses", desc := "()V" } : Jvm.MethodName) prog_1_method_32_code (2 : Nat) (Option.none : Option Jvm.ClassFile.FieldType)).before args0 about1 = true := code_word (m := ⟨2, 31⟩) (meth := k2m31) (c := k2c31) (by decide +kernel) rfl rfl rfl (by decide +kernel)
set_option maxRecDepth 65536 in
theorem w_c35 : (Jvm.Cond.code ({ cls := "ResponseTimeGate", name := "time", desc := "()I" } : Jvm.MethodName) prog_1_method_33_code (1 : Nat) (Option.some Jvm.ClassFile.FieldType.int)).before args0 about1 = true := code_word (m := ⟨2, 32⟩) (meth := k2m32) (c := k2c32) (by decide +kernel) rfl rfl rfl (by decide +kernel)
set_option maxRecDepth 65536 in
theorem w_c36 : (Jvm.Cond.code ({ cls := "ResponseTimeGate", name := "misses", desc := "()I" } : Jvm.MethodName) prog_1_method_36_code (1 : Nat) (Option.some Jvm.ClassFile.FieldType.int)).before args0 about1 = true := code_word (m := ⟨2, 35⟩) (meth := k2m35) (c := k2c35) (by decide +kernel) rfl rfl rfl (by decide +kernel)
set_option maxRecDepth 65536 in
theorem w_c37 : (Jvm.Cond.code ({ cls := "ResponseTimeGate", name := "holder", desc := "(I)I" } : Jvm.MethodName) prog_1_method_38_code (3 : Nat) (Option.some Jvm.ClassFile.FieldType.int)).before args0 about1 = true := code_word (m := ⟨2, 36⟩) (meth := k2m36) (c := k2c36) (by decide +kernel) rfl rfl rfl (by decide +kernel)
set_option maxRecDepth 65536 in
theorem w_c38 : (Jvm.Cond.code ({ cls := "ResponseTimeGate", name := "jobsDone", desc := "(I)I" } : Jvm.MethodName) prog_1_method_35_code (2 : Nat) (Option.some Jvm.ClassFile.FieldType.int)).before args0 about1 = true := code_word (m := ⟨2, 34⟩) (meth := k2m34) (c := k2c34) (by decide +kernel) rfl rfl rfl (by decide +kernel)
set_option maxRecDepth 65536 in
theorem w_c39 : (Jvm.Cond.code ({ cls := "ResponseTimeGate", name := "maxResponse", desc := "(I)I" } : Jvm.MethodName) prog_1_method_34_code (2 : Nat) (Option.some Jvm.ClassFile.FieldType.int)).before args0 about1 = true := code_word (m := ⟨2, 33⟩) (meth := k2m33) (c := k2c33) (by decide +kernel) rfl rfl rfl (by decide +kernel)
def codes1 : List Jvm.Cond := [Jvm.Cond.code x code maxLocals ret, Jvm.Cond.code ({ cls := "ResponseTimeGateL3", name := "u", desc := "(II)I" } : Jvm.MethodName) method_2_code (3 : Nat) (Option.some Jvm.ClassFile.FieldType.int), Jvm.Cond.code ({ cls := "ResponseTimeGate", name := "<init>", desc := "(I)V" } : Jvm.MethodName) prog_1_method_1_code (4 : Nat) (Option.none : Option Jvm.ClassFile.FieldType), Jvm.Cond.code ({ cls := "java/lang/Object", name := "<init>", desc := "()V" } : Jvm.MethodName) object_method_1_code (1 : Nat) (Option.none : Option Jvm.ClassFile.FieldType), Jvm.Cond.code ({ cls := "ResponseTimeGate", name := "resetSim", desc := "()V" } : Jvm.MethodName) prog_1_method_23_code (2 : Nat) (Option.none : Option Jvm.ClassFile.FieldType), Jvm.Cond.code ({ cls := "ResponseTimeGate", name := "beginTask", desc := "(IIII)I" } : Jvm.MethodName) prog_1_method_2_code (6 : Nat) (Option.some Jvm.ClassFile.FieldType.int), Jvm.Cond.code ({ cls := "ResponseTimeGate", name := "priorityTaken", desc := "(I)Z" } : Jvm.MethodName) prog_1_method_3_code (3 : Nat) (Option.some Jvm.ClassFile.FieldType.boolean), Jvm.Cond.code ({ cls := "ResponseTimeGate", name := "addSection", desc := "(III)I" } : Jvm.MethodName) prog_1_method_4_code (4 : Nat) (Option.some Jvm.ClassFile.FieldType.int), Jvm.Cond.code ({ cls := "ResponseTimeGate", name := "overlapsStaged", desc := "(II)Z" } : Jvm.MethodName) prog_1_method_5_code (6 : Nat) (Option.some Jvm.ClassFile.FieldType.boolean), Jvm.Cond.code ({ cls := "ResponseTimeGate", name := "commitTask", desc := "()I" } : Jvm.MethodName) prog_1_method_6_code (4 : Nat) (Option.some Jvm.ClassFile.FieldType.int), Jvm.Cond.code ({ cls := "ResponseTimeGate", name := "lcmWith", desc := "(II)I" } : Jvm.MethodName) prog_1_method_10_code (4 : Nat) (Option.some Jvm.ClassFile.FieldType.int), Jvm.Cond.code ({ cls := "ResponseTimeGate", name := "gcd", desc := "(II)I" } : Jvm.MethodName) prog_1_method_9_code (7 : Nat) (Option.some Jvm.ClassFile.FieldType.int), Jvm.Cond.code ({ cls := "ResponseTimeGate", name := "placeStaged", desc := "(I)V" } : Jvm.MethodName) prog_1_method_7_code (3 : Nat) (Option.none : Option Jvm.ClassFile.FieldType), Jvm.Cond.code ({ cls := "ResponseTimeGate", name := "analyze", desc := "(I)I" } : Jvm.MethodName) prog_1_method_11_code (5 : Nat) (Option.some Jvm.ClassFile.FieldType.int), Jvm.Cond.code ({ cls := "ResponseTimeGate", name := "computeCeilings", desc := "(I)V" } : Jvm.MethodName) prog_1_method_12_code (5 : Nat) (Option.none : Option Jvm.ClassFile.FieldType), Jvm.Cond.code ({ cls := "ResponseTimeGate", name := "blockingOf", desc := "(II)I" } : Jvm.MethodName) prog_1_method_13_code (8 : Nat) (Option.some Jvm.ClassFile.FieldType.int), Jvm.Cond.code ({ cls := "ResponseTimeGate", name := "responseOf", desc := "(III)I" } : Jvm.MethodName) prog_1_method_14_code (8 : Nat) (Option.some Jvm.ClassFile.FieldType.int), Jvm.Cond.code ({ cls := "ResponseTimeGate", name := "interference", desc := "(III)I" } : Jvm.MethodName) prog_1_method_15_code (8 : Nat) (Option.some Jvm.ClassFile.FieldType.int), Jvm.Cond.code ({ cls := "ResponseTimeGate", name := "adoptResults", desc := "(I)V" } : Jvm.MethodName) prog_1_method_8_code (3 : Nat) (Option.none : Option Jvm.ClassFile.FieldType), Jvm.Cond.code ({ cls := "ResponseTimeGate", name := "failedTask", desc := "()I" } : Jvm.MethodName) prog_1_method_22_code (1 : Nat) (Option.some Jvm.ClassFile.FieldType.int), Jvm.Cond.code ({ cls := "ResponseTimeGate", name := "taskCount", desc := "()I" } : Jvm.MethodName) prog_1_method_17_code (1 : Nat) (Option.some Jvm.ClassFile.FieldType.int), Jvm.Cond.code ({ cls := "ResponseTimeGate", name := "bound", desc := "(I)I" } : Jvm.MethodName) prog_1_method_18_code (2 : Nat) (Option.some Jvm.ClassFile.FieldType.int), Jvm.Cond.code ({ cls := "ResponseTimeGate", name := "admitted", desc := "(I)Z" } : Jvm.MethodName) prog_1_method_16_code (2 : Nat) (Option.some Jvm.ClassFile.FieldType.boolean), Jvm.Cond.code ({ cls := "ResponseTimeGate", name := "blocking", desc := "(I)I" } : Jvm.MethodName) prog_1_method_19_code (2 : Nat) (Option.some Jvm.ClassFile.FieldType.int), Jvm.Cond.code ({ cls := "ResponseTimeGate", name := "ceiling", desc := "(I)I" } : Jvm.MethodName) prog_1_method_20_code (2 : Nat) (Option.some Jvm.ClassFile.FieldType.int), Jvm.Cond.code ({ cls := "ResponseTimeGate", name := "hyperperiod", desc := "()I" } : Jvm.MethodName) prog_1_method_21_code (1 : Nat) (Option.some Jvm.ClassFile.FieldType.int), Jvm.Cond.code ({ cls := "ResponseTimeGate", name := "run", desc := "(I)I" } : Jvm.MethodName) prog_1_method_24_code (4 : Nat) (Option.some Jvm.ClassFile.FieldType.int), Jvm.Cond.code ({ cls := "ResponseTimeGate", name := "tick", desc := "()V" } : Jvm.MethodName) prog_1_method_25_code (2 : Nat) (Option.none : Option Jvm.ClassFile.FieldType), Jvm.Cond.code ({ cls := "ResponseTimeGate", name := "releaseJobs", desc := "()V" } : Jvm.MethodName) prog_1_method_26_code (3 : Nat) (Option.none : Option Jvm.ClassFile.FieldType), Jvm.Cond.code ({ cls := "ResponseTimeGate", name := "pickRunning", desc := "()I" } : Jvm.MethodName) prog_1_method_28_code (7 : Nat) (Option.some Jvm.ClassFile.FieldType.int), Jvm.Cond.code ({ cls := "ResponseTimeGate", name := "activePriority", desc := "(I)I" } : Jvm.MethodName) prog_1_method_27_code (3 : Nat) (Option.some Jvm.ClassFile.FieldType.int), Jvm.Cond.code ({ cls := "ResponseTimeGate", name := "executeUnit", desc := "(I)V" } : Jvm.MethodName) prog_1_method_30_code (3 : Nat) (Option.none : Option Jvm.ClassFile.FieldType), Jvm.Cond.code ({ cls := "ResponseTimeGate", name := "takeResourceIfStart", desc := "(I)V" } : Jvm.MethodName) prog_1_method_29_code (3 : Nat) (Option.none : Option Jvm.ClassFile.FieldType), Jvm.Cond.code ({ cls := "ResponseTimeGate", name := "completeJob", desc := "(I)V" } : Jvm.MethodName) prog_1_method_31_code (3 : Nat) (Option.none : Option Jvm.ClassFile.FieldType), Jvm.Cond.code ({ cls := "ResponseTimeGate", name := "checkMisses", desc := "()V" } : Jvm.MethodName) prog_1_method_32_code (2 : Nat) (Option.none : Option Jvm.ClassFile.FieldType), Jvm.Cond.code ({ cls := "ResponseTimeGate", name := "time", desc := "()I" } : Jvm.MethodName) prog_1_method_33_code (1 : Nat) (Option.some Jvm.ClassFile.FieldType.int), Jvm.Cond.code ({ cls := "ResponseTimeGate", name := "misses", desc := "()I" } : Jvm.MethodName) prog_1_method_36_code (1 : Nat) (Option.some Jvm.ClassFile.FieldType.int), Jvm.Cond.code ({ cls := "ResponseTimeGate", name := "holder", desc := "(I)I" } : Jvm.MethodName) prog_1_method_38_code (3 : Nat) (Option.some Jvm.ClassFile.FieldType.int), Jvm.Cond.code ({ cls := "ResponseTimeGate", name := "jobsDone", desc := "(I)I" } : Jvm.MethodName) prog_1_method_35_code (2 : Nat) (Option.some Jvm.ClassFile.FieldType.int), Jvm.Cond.code ({ cls := "ResponseTimeGate", name := "maxResponse", desc := "(I)I" } : Jvm.MethodName) prog_1_method_34_code (2 : Nat) (Option.some Jvm.ClassFile.FieldType.int)]
set_option maxRecDepth 65536 in
theorem codes_eq : words1.filter isCode = codes1 := rfl
theorem w_codes : ∀ c ∈ words1.filter isCode, c.before args0 about1 = true := by
  rw [codes_eq]
  intro c hc
  simp only [codes1, List.mem_cons, List.not_mem_nil, or_false] at hc
  rcases hc with rfl | rfl | rfl | rfl | rfl | rfl | rfl | rfl | rfl | rfl | rfl | rfl | rfl | rfl | rfl | rfl | rfl | rfl | rfl | rfl | rfl | rfl | rfl | rfl | rfl | rfl | rfl | rfl | rfl | rfl | rfl | rfl | rfl | rfl | rfl | rfl | rfl | rfl | rfl | rfl
  · exact w_c0
  · exact w_c1
  · exact w_c2
  · exact w_c3
  · exact w_c4
  · exact w_c5
  · exact w_c6
  · exact w_c7
  · exact w_c8
  · exact w_c9
  · exact w_c10
  · exact w_c11
  · exact w_c12
  · exact w_c13
  · exact w_c14
  · exact w_c15
  · exact w_c16
  · exact w_c17
  · exact w_c18
  · exact w_c19
  · exact w_c20
  · exact w_c21
  · exact w_c22
  · exact w_c23
  · exact w_c24
  · exact w_c25
  · exact w_c26
  · exact w_c27
  · exact w_c28
  · exact w_c29
  · exact w_c30
  · exact w_c31
  · exact w_c32
  · exact w_c33
  · exact w_c34
  · exact w_c35
  · exact w_c36
  · exact w_c37
  · exact w_c38
  · exact w_c39
set_option maxRecDepth 65536 in
theorem w_t1 : (words1.take 24).all (fun c => isCode c || c.before args0 about1) = true := by decide +kernel
set_option maxRecDepth 65536 in
theorem w_t2 : ((words1.drop 24).take 24).all (fun c => isCode c || c.before args0 about1) = true := by decide +kernel
set_option maxRecDepth 65536 in
theorem w_t3 : (((words1.drop 24).drop 24).take 24).all (fun c => isCode c || c.before args0 about1) = true := by decide +kernel
set_option maxRecDepth 65536 in
theorem w_t4 : ((((words1.drop 24).drop 24).drop 24).take 24).all (fun c => isCode c || c.before args0 about1) = true := by decide +kernel
set_option maxRecDepth 65536 in
theorem w_t5 : (((((words1.drop 24).drop 24).drop 24).drop 24).take 24).all (fun c => isCode c || c.before args0 about1) = true := by decide +kernel
set_option maxRecDepth 65536 in
theorem w_t6 : ((((((words1.drop 24).drop 24).drop 24).drop 24).drop 24).take 24).all (fun c => isCode c || c.before args0 about1) = true := by decide +kernel
set_option maxRecDepth 65536 in
theorem w_t7 : (((((((words1.drop 24).drop 24).drop 24).drop 24).drop 24).drop 24).take 24).all (fun c => isCode c || c.before args0 about1) = true := by decide +kernel
set_option maxRecDepth 65536 in
theorem w_t8 : ((((((((words1.drop 24).drop 24).drop 24).drop 24).drop 24).drop 24).drop 24).take 24).all (fun c => isCode c || c.before args0 about1) = true := by decide +kernel
set_option maxRecDepth 65536 in
theorem w_t9 : (((((((((words1.drop 24).drop 24).drop 24).drop 24).drop 24).drop 24).drop 24).drop 24).take 24).all (fun c => isCode c || c.before args0 about1) = true := by decide +kernel
set_option maxRecDepth 65536 in
theorem w_t10 : (((((((((words1.drop 24).drop 24).drop 24).drop 24).drop 24).drop 24).drop 24).drop 24).drop 24).all (fun c => isCode c || c.before args0 about1) = true := by decide +kernel
theorem w_tables : (allAtoms (Jvm.Cond.code x code maxLocals ret :: tables_1)).before args0 about1 = true := by
  rw [allAtoms_all]
  show words1.all (fun c => c.before args0 about1) = true
  refine all_split ?_ w_codes
  rw [← List.take_append_drop 24 words1, List.all_append, w_t1, ← List.take_append_drop 24 (words1.drop 24), List.all_append, w_t2, ← List.take_append_drop 24 ((words1.drop 24).drop 24), List.all_append, w_t3, ← List.take_append_drop 24 (((words1.drop 24).drop 24).drop 24), List.all_append, w_t4, ← List.take_append_drop 24 ((((words1.drop 24).drop 24).drop 24).drop 24), List.all_append, w_t5, ← List.take_append_drop 24 (((((words1.drop 24).drop 24).drop 24).drop 24).drop 24), List.all_append, w_t6, ← List.take_append_drop 24 ((((((words1.drop 24).drop 24).drop 24).drop 24).drop 24).drop 24), List.all_append, w_t7, ← List.take_append_drop 24 (((((((words1.drop 24).drop 24).drop 24).drop 24).drop 24).drop 24).drop 24), List.all_append, w_t8, ← List.take_append_drop 24 ((((((((words1.drop 24).drop 24).drop 24).drop 24).drop 24).drop 24).drop 24).drop 24), List.all_append, w_t9, w_t10]
  rfl
set_option maxRecDepth 65536 in
theorem w_case : (Jvm.Cond.and given_1 narrow_1).before args0 about1 = true := by decide +kernel
theorem w_applies : (headSpec (Jvm.Cond.code x code maxLocals ret :: tables_1) room_1).applies x e0.platform about1 = true :=
  (Spec.applies_iff w_frames).mpr ⟨w_running, w_runnable, w_alone, w_named, w_hears, w_ripe, w_room, w_tables⟩
theorem atStart : AtStart classFile x code maxLocals ret World_1 tables_1 room_1 Calls_1 rest_1 Pre_1 launch0 p0 e0 about1 theMethod args0 below0 :=
  ⟨lists_1, trivial, launch0.admits_env _ _ _, launch0.least_env, fairChoices_fair.cas, fairChoices_fair.clock, w_frames, w_args, w_heap, w_applies, trivial, trivial, w_case⟩
end start1
theorem witness_1 : WitnessClaimed_1 := ⟨start1.p0, start1.e0, start1.about1, start1.theMethod, start1.args0, start1.below0, start1.atStart⟩
end Jvm.Pilot.@@N@@
