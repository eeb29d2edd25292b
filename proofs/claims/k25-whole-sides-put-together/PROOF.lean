import PyProof.Rows.All
import Wide.All
import OpenK.AllK
import Wide.FinOn
import HandS.ForMost
import HandS.Wide
import HandS.IsInst
import HandS.Flow
import HandS.Zip
import HandS.Style
import PyProof.EqLayable
import HandS.Conv
import HandS.TryOnly
import KE.SortData
import KE.DataCmp
import PySem.Challenge.RW_branchdepth_k25_whole_sides_put_together
set_option Elab.async false
set_option linter.all false
set_option maxRecDepth 100000
set_option maxHeartbeats 4000000
def PySem.W.Fast.tw16099856969004844642 : Unit := ()
def PySem.W.Fast.tw2973816835749558205 : Unit := ()
def PySem.W.Fast.tw13024886770099252605 : Unit := ()
def PySem.W.Fast.tw8637168817962093171 : Unit := ()
def PySem.W.Fast.tw15086505901034958721 : Unit := ()
def PySem.W.Fast.tw1765770256606767296 : Unit := ()
namespace Tr
open PySem L2
noncomputable section
open Classical in
/-- what holds, as a truth that nothing reckons -/
def ok (p : Prop) : Bool := decide p
theorem of_ok {p : Prop} (h : ok p = true) : p := @of_decide_eq_true p (Classical.propDecidable p) h
theorem ok_of {p : Prop} (h : p) : ok p = true := @decide_eq_true p (Classical.propDecidable p) h
theorem ok_iff {p : Prop} : ok p = true ↔ p := ⟨of_ok, ok_of⟩
inductive D where
  | non
  | bl (b : Bool)
  | int (i : Int)
  | str (x : Str)
  | ty (n : String)
  | cl (n : String)
  | exc (n : String)
  | lst (xs : List D)
  | tup (xs : List D)
  | scr (ns : List Int)
  | ins (c : String) (fs : List (Str × D))
inductive Mode where | F | S | O
  deriving DecidableEq
mutual
/-- no list, no instance within -/
def D.flat : D → Bool
  | .lst _ => false
  | .scr _ => false
  | .ins _ _ => false
  | .tup xs => D.flats xs
  | _ => true
def D.flats : List D → Bool
  | [] => true
  | x :: xs => D.flat x && D.flats xs
end
structure Val where
  m : Mode
  d : D
structure Slot where
  m : Mode
  lk : Bool
  d : D
abbrev Env := List (Option Slot)
/-- what carries nothing that can change is closed -/
def nrm (m : Mode) (d : D) : Val := if d.flat then ⟨.O, d⟩ else ⟨m, d⟩
/-- what is handed in, to be looked at -/
def par (d : D) : Slot := ⟨(nrm .F d).m, false, d⟩
abbrev SE := Env → Option (Val × Env)
abbrev SB := Env → Option (Bool × Env)
abbrev SA := Env → Option (List Val × Env)
inductive Out where
  | nx (ρ : Env)
  | rt (r : Val) (ρ : Env)
  | bk (ρ : Env)
  | ct (ρ : Env)
abbrev SS := Env → Option Out
/-- the locks of ρ₀ again -/
def relock : Option Slot → Option Slot → Option Slot
  | some a, some b => some { b with lk := a.lk }
  | _, b => b
def restore : Env → Env → Env
  | a :: ρ, b :: ρ' => relock a b :: restore ρ ρ'
  | _, ρ' => ρ'
def frz1 : Option Slot → Option Slot
  | some s => if s.lk then some ⟨.F, false, s.d⟩ else some s
  | none => none
def freeze (ρ : Env) : Env := ρ.map frz1
/-- what has been locked since ρ₀ -/
def frz2 : Option Slot → Option Slot → Option Slot
  | some a, some b => if b.lk && !a.lk then some ⟨.F, false, b.d⟩ else some b
  | _, b => b
def freeze2 : Env → Env → Env
  | a :: ρ, b :: ρ' => frz2 a b :: freeze2 ρ ρ'
  | _, ρ' => ρ'
def sVar (i : Nat) : SE := fun ρ =>
  match ρ[i]? with
  | some (some s) => if s.d.flat then some (⟨.O, s.d⟩, ρ) else if s.m = .F then some (⟨.F, s.d⟩, ρ) else some (⟨.F, s.d⟩, ρ.set i (some { s with lk := true }))
  | _ => none
/-- the name's last use: what it owns goes with the value -/
def sMove (i : Nat) : SE := fun ρ =>
  match ρ[i]? with
  | some (some s) => if s.d.flat then some (⟨.O, s.d⟩, ρ) else if s.m = .F then some (⟨.F, s.d⟩, ρ) else if s.lk then none else some (⟨s.m, s.d⟩, ρ.set i none)
  | _ => none
def sCon (d : D) : SE := fun ρ => some (⟨.O, d⟩, ρ)
def sealE (f : SE) : SE := fun ρ =>
  match f ρ with
  | some (r, ρ') => if r.m = .O then some (r, restore ρ ρ') else some (r, ρ')
  | none => none
def sNil : SA := fun ρ => some ([], ρ)
def sCons (f : SE) (g : SA) : SA := fun ρ =>
  match f ρ with
  | some (r, ρ1) =>
    match g ρ1 with
    | some (rs, ρ2) => some (r :: rs, ρ2)
    | none => none
  | none => none
def sApp (g : List Val → Option Val) (fs : SA) : SE := sealE fun ρ =>
  match fs ρ with
  | some (rs, ρ1) =>
    match g rs with
    | some r => some (r, ρ1)
    | none => none
  | none => none
def sApp2 (g : List Val → Option Val) (f h : SE) : SE := sApp g (sCons f (sCons h sNil))
def sApp1 (g : List Val → Option Val) (f : SE) : SE := sApp g (sCons f sNil)
def sTest (f : SE) : SB := fun ρ =>
  match f ρ with
  | some (⟨_, .bl b⟩, ρ1) => some (b, restore ρ ρ1)
  | _ => none
def sNot (f : SB) : SB := fun ρ =>
  match f ρ with
  | some (b, ρ1) => some (!b, ρ1)
  | none => none
def sAnd (f g : SB) : SB := fun ρ =>
  match f ρ with
  | some (true, ρ1) => g ρ1
  | some (false, ρ1) => some (false, ρ1)
  | none => none
def sOr (f g : SB) : SB := fun ρ =>
  match f ρ with
  | some (true, ρ1) => some (true, ρ1)
  | some (false, ρ1) => g ρ1
  | none => none
/-- and, or of truths as values -/
def sAndV (f g : SE) : SE := fun ρ =>
  match f ρ with
  | some (⟨_, .bl true⟩, ρ1) => g ρ1
  | some (⟨_, .bl false⟩, ρ1) => some (⟨.O, .bl false⟩, ρ1)
  | _ => none
def sOrV (f g : SE) : SE := fun ρ =>
  match f ρ with
  | some (⟨_, .bl true⟩, ρ1) => some (⟨.O, .bl true⟩, ρ1)
  | some (⟨_, .bl false⟩, ρ1) => g ρ1
  | _ => none
def sNotV (f : SE) : SE := fun ρ =>
  match f ρ with
  | some (⟨_, .bl b⟩, ρ1) => some (⟨.O, .bl (!b)⟩, ρ1)
  | _ => none
/-- behind a statement's value: closed, the locks are taken back; else what was looked at stays as it is -/
def settle (ρ : Env) (r : Val) (ρ1 : Env) : Env := if r.m = .O then restore ρ ρ1 else freeze2 ρ ρ1
def setSlot (ρ : Env) (i : Nat) (r : Val) : Option Env := if i < ρ.length then some (ρ.set i (some ⟨r.m, false, r.d⟩)) else none
def sDrop (f : SE) : SS := fun ρ =>
  match f ρ with
  | some (_, ρ1) => some (.nx (restore ρ ρ1))
  | none => none
def sRet (f : SE) : SS := fun ρ =>
  match f ρ with
  | some (r, ρ1) => some (.rt r ρ1)
  | none => none
def sSkip : SS := fun ρ => some (.nx ρ)
def sSeq (f g : SS) : SS := fun ρ =>
  match f ρ with
  | some (.nx ρ1) => g ρ1
  | r => r
def sIf (c : SB) (f g : SS) : SS := fun ρ =>
  match c ρ with
  | some (true, ρ1) => f ρ1
  | some (false, ρ1) => g ρ1
  | none => none
def whileF (c : SB) (b : SS) : Nat → SS
  | 0, _ => none
  | n + 1, ρ =>
    match c ρ with
    | some (false, ρ1) => some (.nx ρ1)
    | some (true, ρ1) =>
      match b ρ1 with
      | some (.nx ρ2) => whileF c b n ρ2
      | some (.ct ρ2) => whileF c b n ρ2
      | some (.bk ρ2) => some (.nx ρ2)
      | some (.rt r ρ2) => some (.rt r ρ2)
      | none => none
    | none => none
theorem whileF_succ {c : SB} {b : SS} : ∀ {n : Nat} {ρ : Env} {r : Out}, whileF c b n ρ = some r → whileF c b (n + 1) ρ = some r
  | 0, _, _, h => by cases h
  | n + 1, ρ, r, h => by
    rw [whileF] at h
    rw [whileF]
    cases e1 : c ρ with
    | none => rw [e1] at h; cases h
    | some x =>
      obtain ⟨t, ρ1⟩ := x
      rw [e1] at h
      cases t with
      | false => exact h
      | true =>
        simp only at h ⊢
        cases e2 : b ρ1 with
        | none => rw [e2] at h; cases h
        | some o =>
          rw [e2] at h
          cases o with
          | nx ρ2 => exact whileF_succ (n := n) h
          | ct ρ2 => exact whileF_succ (n := n) h
          | bk ρ2 => exact h
          | rt r ρ2 => exact h
theorem whileF_add {c : SB} {b : SS} {n : Nat} {ρ : Env} {r : Out} (h : whileF c b n ρ = some r) : ∀ k, whileF c b (n + k) ρ = some r
  | 0 => h
  | k + 1 => whileF_succ (whileF_add h k)
open Classical in
def sWhile (c : SB) (b : SS) : SS := fun ρ =>
  if h : ∃ r n, whileF c b n ρ = some r then some (choose h) else none
theorem sWhile_iff {c : SB} {b : SS} {ρ : Env} {r : Out} : sWhile c b ρ = some r ↔ ∃ n, whileF c b n ρ = some r := by
  unfold sWhile
  constructor
  · intro h
    split at h
    · rename_i q
      cases h
      exact Classical.choose_spec q
    · cases h
  · rintro ⟨n, h⟩
    have q : ∃ r n, whileF c b n ρ = some r := ⟨r, n, h⟩
    rw [dif_pos q]
    obtain ⟨m, hm⟩ := Classical.choose_spec q
    have e1 := whileF_add h m
    have e2 := whileF_add hm n
    rw [Nat.add_comm m n, e1] at e2
    exact e2.symm
abbrev STg := Val → Env → Option Env
def sGName (i : Nat) : STg := fun r ρ => setSlot ρ i r
def sGNil : List D → Mode → Env → Option Env
  | [], _, ρ => some ρ
  | _ :: _, _, _ => none
def sGCons (g : STg) (gs : List D → Mode → Env → Option Env) : List D → Mode → Env → Option Env
  | d :: ds, m, ρ =>
    match g (nrm m d) ρ with
    | some ρ1 => gs ds m ρ1
    | none => none
  | [], _, _ => none
def sGTup (gs : List D → Mode → Env → Option Env) : STg := fun r ρ =>
  match r.d with
  | .tup ds => gs ds r.m ρ
  | _ => none
def sAsg (g : STg) (f : SE) : SS := fun ρ =>
  match f ρ with
  | some (r, ρ1) =>
    match g r (settle ρ r ρ1) with
    | some ρ2 => some (.nx ρ2)
    | none => none
  | none => none
def sSet (i : Nat) (f : SE) : SS := sAsg (sGName i) f
def allO : List Val → Bool
  | [] => true
  | r :: rs => decide (r.m = .O) && allO rs
def sPar (i j : Nat) (fs : SA) : SS := fun ρ =>
  match fs ρ with
  | some ([r, r2], ρ1) =>
    match setSlot (if allO [r, r2] then restore ρ ρ1 else freeze2 ρ ρ1) i r with
    | some ρ2 =>
      match setSlot ρ2 j r2 with
      | some ρ3 => some (.nx ρ3)
      | none => none
    | none => none
  | _ => none
/-- the items that a for walks -/
abbrev SI := Env → Option (List D × Env)
def iSq (f : SE) : SI := fun ρ =>
  match f ρ with
  | some (r, ρ1) =>
    match r.d with
    | .lst ds => some (ds, ρ1)
    | .tup ds => some (ds, ρ1)
    | _ => none
  | none => none
def enumL : Nat → List D → List D
  | _, [] => []
  | n, d :: ds => .tup [.int n, d] :: enumL (n + 1) ds
def iEnu (fs : SA) : SI := fun ρ =>
  match fs ρ with
  | some ([r], ρ1) =>
    match r.d with
    | .lst ds => some (enumL 0 ds, ρ1)
    | _ => none
  | _ => none
def forGo (g : STg) (b : SS) : List D → SS
  | [], ρ => some (.nx ρ)
  | d :: ds, ρ =>
    match g (nrm .F d) ρ with
    | some ρ1 =>
      match b ρ1 with
      | some (.nx ρ2) => forGo g b ds ρ2
      | some (.ct ρ2) => forGo g b ds ρ2
      | some (.bk ρ2) => some (.nx ρ2)
      | some (.rt r ρ2) => some (.rt r ρ2)
      | none => none
    | none => none
/-- what is walked stays as it is from here on -/
def sFor (src : SI) (g : STg) (b : SS) : SS := fun ρ =>
  match src ρ with
  | some (ds, ρ1) => forGo g b ds (freeze2 ρ ρ1)
  | none => none
def small (i : Int) : Bool := ok (-(2 ^ 62) ≤ i ∧ i < 2 ^ 62)
def up (lo : Int) (n : Nat) : List D := (List.range n).map fun (k : Nat) => .int (lo + (k : Int))
def iRange1 (fs : SA) : SI := fun ρ =>
  match fs ρ with
  | some ([⟨_, .int j⟩], ρ1) => if small j then some (up 0 j.toNat, ρ1) else none
  | _ => none
def iRange2 (fs : SA) : SI := fun ρ =>
  match fs ρ with
  | some ([⟨_, .int i⟩, ⟨_, .int j⟩], ρ1) => if small i && small j then some (up i (j - i).toNat, ρ1) else none
  | _ => none
def step (lo c : Int) (n : Nat) : List D := (List.range n).map fun (k : Nat) => .int (lo + (k : Int) * c)
/-- range(i, j, c) -/
def iRange3 (fs : SA) : SI := fun ρ =>
  match fs ρ with
  | some ([⟨_, .int i⟩, ⟨_, .int j⟩, ⟨_, .int c⟩], ρ1) => if ok (c ≠ 0 ∧ c.natAbs < 1073741824 ∧ PySem.Builtin.Range.small i j c = true) then some (step i c (PySem.Builtin.Range.rangeSize i j c).toNat, ρ1) else none
  | _ => none
/-- a comprehension's block: es keep what they own, ls are looked at, vs are the block's own -/
def view1 : Option Slot → Option Slot
  | some s => some (par s.d)
  | none => none
def hide (ls es vs : List Nat) (ρ : Env) : Env := ρ.mapIdx fun i s => if vs.contains i then none else if es.contains i then s else if ls.contains i then view1 s else none
def wipeE (vs : List Nat) (ρ : Env) : Env := ρ.mapIdx fun i s => if vs.contains i then none else s
/-- behind it -/
def lock1 : Option Slot → Option Slot
  | some s => some (if s.m = .F then s else { s with lk := true })
  | none => none
def unhide (ls es vs : List Nat) (ρ ρb : Env) : Env := ρ.mapIdx fun i s => if vs.contains i then s else if es.contains i then (ρb[i]?).getD none else if ls.contains i then lock1 s else s
/-- the slots that a block may change own all they hold -/
def esOk (es vs : List Nat) (ρ : Env) : Bool := es.all fun i => vs.contains i || (match ρ[i]? with | some (some s) => decide (s.m = .O) && !s.lk | _ => false)
def lcGo (g : STg) (t : SB) (f : SE) (vs : List Nat) : List D → Env → List Val → Option (List Val × Env)
  | [], ρ, acc => some (acc, ρ)
  | d :: ds, ρ, acc =>
    match g (nrm .F d) ρ with
    | some ρ1 =>
      match t ρ1 with
      | some (true, ρ2) =>
        match f ρ2 with
        | some (r, ρ3) => if ok (acc.length < sizeLine) then lcGo g t f vs ds (wipeE vs (settle ρ2 r ρ3)) (acc ++ [r]) else none
        | none => none
      | some (false, ρ2) => lcGo g t f vs ds (wipeE vs ρ2) acc
      | none => none
    | none => none
def sLc (ls es vs : List Nat) (src : SI) (g : STg) (t : SB) (f : SE) : SE := sealE fun ρ =>
  match src ρ with
  | some (ds1, ρ1) =>
    if esOk es vs ρ1 then
      match lcGo g t f vs ds1 (hide ls es vs ρ1) [] with
      | some (rs, ρ2) => if esOk es vs ρ2 then some (if allO rs then ⟨.O, .lst (rs.map fun (x : Val) => x.d)⟩ else ⟨.S, .lst (rs.map fun (x : Val) => x.d)⟩, unhide ls es vs ρ1 ρ2) else none
      | none => none
    else none
  | none => none
/-- a < b <= c and its like, of ints -/
def sChain (p q : Int → Int → Bool) (f g h : SE) : SE := fun ρ =>
  match f ρ with
  | some (⟨_, .int a⟩, ρ1) =>
    match g ρ1 with
    | some (⟨_, .int b⟩, ρ2) =>
      if p a b then
        match h ρ2 with
        | some (⟨_, .int c⟩, ρ3) => some (⟨.O, .bl (q b c)⟩, ρ3)
        | _ => none
      else some (⟨.O, .bl false⟩, ρ2)
    | _ => none
  | _ => none
def sYes : SB := fun ρ => some (true, ρ)
/-- a def by its body -/
def fnSem (np n : Nat) (b : SS) : List D → Option Val := fun ds =>
  if ds.length = np then
    match b (ds.map (fun d => some (par d)) ++ List.replicate (n - ds.length) none) with
    | some (.rt r _) => some r
    | some (.nx _) => some ⟨.O, .non⟩
    | _ => none
  else none
/-- what a call of a def gives, from values -/
def opFn (g : List D → Option Val) : List Val → Option Val := fun rs => g (rs.map (·.d))
def allS : List Val → Bool
  | [] => true
  | r :: rs => (decide (r.m = .S) || r.d.flat) && allS rs
def ds (rs : List Val) : List D := rs.map fun (x : Val) => x.d
/-- a new list of such items -/
def mkL (xs : List D) : Val := ⟨if D.flats xs then .O else .S, .lst xs⟩
/-- together below a million bits -/
def bitOk (a b : Int) : Bool := ok (a.natAbs.log2 + b.natAbs.log2 < 1000000)
def divOk (b : Int) : Bool := ok (b ≠ 0 ∧ b.natAbs.log2 < 9000)
def opAdd : List Val → Option Val
  | [⟨_, .int a⟩, ⟨_, .int b⟩] => some ⟨.O, .int (a + b)⟩
  | [⟨_, .str a⟩, ⟨_, .str b⟩] => if ok (a.length + b.length ≤ sizeLine) then some ⟨.O, .str (a ++ b)⟩ else none
  | [⟨_, .lst a⟩, ⟨_, .lst b⟩] => if ok (a.length + b.length ≤ sizeLine) then some (mkL (a ++ b)) else none
  | _ => none
def opSub : List Val → Option Val
  | [⟨_, .int a⟩, ⟨_, .int b⟩] => some ⟨.O, .int (a - b)⟩
  | _ => none
def opMul : List Val → Option Val
  | [⟨_, .int a⟩, ⟨_, .int b⟩] => if bitOk a b then some ⟨.O, .int (a * b)⟩ else none
  | [⟨_, .lst a⟩, ⟨_, .int k⟩] => if ok (-(2 ^ 63) ≤ k ∧ k < 2 ^ 63 ∧ a.length * k.toNat ≤ sizeLine) then some (mkL (List.replicate k.toNat a).flatten) else none
  | _ => none
def opMod : List Val → Option Val
  | [⟨_, .int a⟩, ⟨_, .int b⟩] => if b = 0 then none else some ⟨.O, .int (a.fmod b)⟩
  | _ => none
def opDiv : List Val → Option Val
  | [⟨_, .int a⟩, ⟨_, .int b⟩] => if divOk b then some ⟨.O, .int (a.fdiv b)⟩ else none
  | _ => none
def opPow : List Val → Option Val
  | [⟨_, .int a⟩, ⟨_, .int b⟩] => if ok (0 ≤ b ∧ b ≤ 1000000 ∧ a.natAbs < 2 ^ 64) then some ⟨.O, .int (a ^ b.toNat)⟩ else none
  | _ => none
def opNeg : List Val → Option Val
  | [⟨_, .int a⟩] => some ⟨.O, .int (-a)⟩
  | _ => none
def opCmp (p : Int → Int → Bool) : List Val → Option Val
  | [⟨_, .int a⟩, ⟨_, .int b⟩] => some ⟨.O, .bl (p a b)⟩
  | _ => none
def opLt := opCmp fun a b => decide (a < b)
def opLe := opCmp fun a b => decide (a ≤ b)
def opGt := opCmp fun a b => decide (b < a)
def opGe := opCmp fun a b => decide (b ≤ a)
mutual
def D.py : D → PyData
  | .non => .none
  | .bl b => .bool b
  | .int i => .int i
  | .str x => .str x
  | .ty _ => .none
  | .cl _ => .none
  | .exc _ => .none
  | .lst xs => .list (D.pys xs)
  | .tup xs => .tuple (D.pys xs)
  | .scr ns => .list (ns.map PyData.int)
  | .ins _ _ => .none
def D.pys : List D → List PyData
  | [] => []
  | x :: xs => D.py x :: D.pys xs
end
mutual
/-- data alone -/
def D.plain : D → Bool
  | .ins _ _ => false
  | .ty _ => false
  | .cl _ => false
  | .exc _ => false
  | .lst xs => D.plains xs
  | .tup xs => D.plains xs
  | _ => true
def D.plains : List D → Bool
  | [] => true
  | x :: xs => D.plain x && D.plains xs
end
def pyOk (d : D) : Bool := d.plain && PySem.SeqAt.shaped d.py
def opEq : List Val → Option Val
  | [a, b] => if pyOk a.d && pyOk b.d then some ⟨.O, .bl (PyData.eqv a.d.py b.d.py)⟩ else none
  | _ => none
def opNe : List Val → Option Val
  | [a, b] => if pyOk a.d && pyOk b.d then some ⟨.O, .bl (!PyData.eqv a.d.py b.d.py)⟩ else none
  | _ => none
def D.isNon : D → Bool
  | .non => true
  | _ => false
def opIsN : List Val → Option Val
  | [a, ⟨_, .non⟩] => some ⟨.O, .bl a.d.isNon⟩
  | _ => none
def opNotN : List Val → Option Val
  | [a, ⟨_, .non⟩] => some ⟨.O, .bl (!a.d.isNon)⟩
  | _ => none
def opIsB : List Val → Option Val
  | [⟨_, .bl a⟩, ⟨_, .bl b⟩] => some ⟨.O, .bl (decide (a = b))⟩
  | _ => none
def opNotB : List Val → Option Val
  | [⟨_, .bl a⟩, ⟨_, .bl b⟩] => some ⟨.O, .bl (!decide (a = b))⟩
  | _ => none
def opTup : List Val → Option Val := fun rs =>
  if ok (rs.length ≤ sizeLine) then some (if allO rs then ⟨.O, .tup (ds rs)⟩ else if allS rs then ⟨.S, .tup (ds rs)⟩ else ⟨.F, .tup (ds rs)⟩) else none
def opLst : List Val → Option Val := fun rs =>
  if ok (rs.length ≤ sizeLine) then some (if allO rs then ⟨.O, .lst (ds rs)⟩ else ⟨.S, .lst (ds rs)⟩) else none
def kidL : Mode → Mode
  | .O => .O
  | _ => .F
def opIdx : List Val → Option Val
  | [⟨m, .lst xs⟩, ⟨_, .int i⟩] => (atI xs i).map fun d => nrm (kidL m) d
  | [⟨m, .tup xs⟩, ⟨_, .int i⟩] => (atI xs i).map fun d => nrm m d
  | [⟨_, .scr xs⟩, ⟨_, .int i⟩] => (atI xs i).map fun d => ⟨.O, .int d⟩
  | [⟨_, .str z⟩, ⟨_, .int i⟩] => if ok (z.length ≤ sizeLine) then (atI z.cps.toList i).map fun c => ⟨.O, .str ⟨#[c]⟩⟩ else none
  | _ => none
def cut {α : Type} (xs : List α) (lo hi : Option Int) : List α := (xs.drop (HT.sIx xs.length 0 lo)).take (HT.sIx xs.length xs.length hi - HT.sIx xs.length 0 lo)
def sOSome (f : SE) : Env → Option (Option Int × Env) := fun ρ =>
  match f ρ with
  | some (⟨_, .int i⟩, ρ1) => some (some i, restore ρ ρ1)
  | _ => none
def sCut (f : SE) (l u : Env → Option (Option Int × Env)) : SE := sealE fun ρ =>
  match f ρ with
  | some (r, ρ1) =>
    match l ρ1 with
    | some (lo, ρ2) =>
      match u ρ2 with
      | some (hi, ρ3) =>
        match r.d with
        | .lst xs => some (mkL (cut xs lo hi), ρ3)
        | _ => none
      | none => none
    | none => none
  | none => none
def opLen : List Val → Option Val
  | [⟨_, .lst xs⟩] => some ⟨.O, .int xs.length⟩
  | [⟨_, .tup xs⟩] => some ⟨.O, .int xs.length⟩
  | [⟨_, .scr xs⟩] => some ⟨.O, .int xs.length⟩
  | [⟨_, .str z⟩] => if ok (z.length ≤ sizeLine) then some ⟨.O, .int z.length⟩ else none
  | _ => none
def opAbs : List Val → Option Val
  | [⟨_, .int a⟩] => some ⟨.O, .int (if a < 0 then -a else a)⟩
  | _ => none
def opMax2 : List Val → Option Val
  | [⟨_, .int a⟩, ⟨_, .int b⟩] => some ⟨.O, .int (if b > a then b else a)⟩
  | _ => none
def opMin2 : List Val → Option Val
  | [⟨_, .int a⟩, ⟨_, .int b⟩] => some ⟨.O, .int (if b < a then b else a)⟩
  | _ => none
def opInt : List Val → Option Val
  | [⟨_, .int a⟩] => some ⟨.O, .int a⟩
  | [⟨_, .bl b⟩] => some ⟨.O, .int (if b then 1 else 0)⟩
  | _ => none
def opList : List Val → Option Val
  | [⟨_, .lst xs⟩] => some (mkL xs)
  | [⟨_, .tup xs⟩] => some (mkL xs)
  | _ => none
def D.tyName : D → Option String
  | .non => some "NoneType"
  | .bl _ => some "bool"
  | .int _ => some "int"
  | .str _ => some "str"
  | .lst _ => some "list"
  | .scr _ => some "list"
  | .tup _ => some "tuple"
  | _ => none
def opIsi : List Val → Option Val
  | [a, ⟨_, .ty n⟩] => (a.d.tyName.bind fun t => kitB t n).map fun b => ⟨.O, .bl b⟩
  | _ => none
def bls? : List D → Option (List Bool)
  | [] => some []
  | .bl b :: r => (bls? r).map (b :: ·)
  | _ :: _ => none
def opAll : List Val → Option Val
  | [⟨_, .lst xs⟩] => (bls? xs).map fun bs => ⟨.O, .bl (bs.all id)⟩
  | _ => none
end
end Tr
namespace Tr
open PySem L2
structure Wd where
  K : PySem.W.Frag
  cls : String → Addr
  pin : Nat → Bool
/-- no slot is pinned -/
abbrev W0 (K : PySem.W.Frag) (c : String → Addr) : Wd := ⟨K, c, fun _ => false⟩
def Mutb : HO → Prop
  | .lst _ => True
  | .ins _ _ _ => True
  | _ => False
mutual
inductive Rep (W : Wd) (H G : Hp) : Mode → D → V → List Addr → Prop
  | non (m : Mode) : Rep W H G m .non .non []
  | bl (m : Mode) (b : Bool) : Rep W H G m (.bl b) (.bl b) []
  | int (m : Mode) (i : Int) : Rep W H G m (.int i) (.int i) []
  | str (m : Mode) (x : Str) : Rep W H G m (.str x) (.str x) []
  | ty (m : Mode) (n : String) : Rep W H G m (.ty n) (.ty n) []
  | cl (m : Mode) (n : String) : Rep W H G m (.cl n) (.ref (W.cls n)) []
  | exc (m : Mode) (n : String) : Rep W H G m (.exc n) (.ref (W.cls "!")) []
  | tup {m : Mode} {a : Addr} {vs : List V} {ds : List D} {A : List Addr} : SqT W.K H a vs → Reps W H G m ds vs A → Rep W H G m (.tup ds) (.ref a) A
  | lstF {a : Addr} {vs : List V} {ds : List D} : G a = some (.lst vs) → Reps W H G .F ds vs [] → Rep W H G .F (.lst ds) (.ref a) []
  | lstS {a : Addr} {vs : List V} {ds : List D} : H a = some (.lst vs) → Reps W H G .F ds vs [] → Rep W H G .S (.lst ds) (.ref a) [a]
  | lstO {a : Addr} {vs : List V} {ds : List D} {A : List Addr} : H a = some (.lst vs) → Reps W H G .O ds vs A → Rep W H G .O (.lst ds) (.ref a) (a :: A)
  | scr {a : Addr} {ns : List Int} : SqL W.K G a (ns.map V.int) → Rep W H G .F (.scr ns) (.ref a) []
  | insF {a : Addr} {c : String} {dx : Addr} {gs : List (Str × V)} {fs : List (Str × D)} : G a = some (.ins (W.cls c) dx gs) → Repf W H G .F fs gs [] → Rep W H G .F (.ins c fs) (.ref a) []
  | insS {a : Addr} {c : String} {dx : Addr} {gs : List (Str × V)} {fs : List (Str × D)} : H a = some (.ins (W.cls c) dx gs) → Repf W H G .F fs gs [] → Rep W H G .S (.ins c fs) (.ref a) [a]
  | insO {a : Addr} {c : String} {dx : Addr} {gs : List (Str × V)} {fs : List (Str × D)} {A : List Addr} : H a = some (.ins (W.cls c) dx gs) → Repf W H G .O fs gs A → Rep W H G .O (.ins c fs) (.ref a) (a :: A)
inductive Reps (W : Wd) (H G : Hp) : Mode → List D → List V → List Addr → Prop
  | nil (m : Mode) : Reps W H G m [] [] []
  | cons {m : Mode} {d : D} {ds : List D} {v : V} {vs : List V} {A B : List Addr} : Rep W H G m d v A → Reps W H G m ds vs B → Reps W H G m (d :: ds) (v :: vs) (A ++ B)
inductive Repf (W : Wd) (H G : Hp) : Mode → List (Str × D) → List (Str × V) → List Addr → Prop
  | nil (m : Mode) : Repf W H G m [] [] []
  | cons {m : Mode} {n : Str} {d : D} {ds : List (Str × D)} {v : V} {vs : List (Str × V)} {A B : List Addr} : Rep W H G m d v A → Repf W H G m ds vs B → Repf W H G m ((n, d) :: ds) ((n, v) :: vs) (A ++ B)
end
section
variable {W : Wd} {H G H' G' : Hp}
mutual
theorem Rep.mono (hK : ∀ a vs, SqT W.K H a vs → SqT W.K H' a vs) (hG : Same G G') : ∀ {m : Mode} {d : D} {v : V} {A : List Addr}, Rep W H G m d v A → (∀ a ∈ A, ∀ o, H a = some o → H' a = some o) → Rep W H' G' m d v A
  | _, _, _, _, .non m, _ => .non m
  | _, _, _, _, .bl m b, _ => .bl m b
  | _, _, _, _, .int m b, _ => .int m b
  | _, _, _, _, .str m b, _ => .str m b
  | _, _, _, _, .ty m b, _ => .ty m b
  | _, _, _, _, .cl m b, _ => .cl m b
  | _, _, _, _, .exc m b, _ => .exc m b
  | _, _, _, _, .tup h r, k => .tup (hK _ _ h) (Reps.mono hK hG r k)
  | _, _, _, _, .lstF h r, k => .lstF (hG _ _ h) (Reps.mono hK hG r fun _ z => nomatch z)
  | _, _, _, _, .lstS h r, k => .lstS (k _ (by simp) _ h) (Reps.mono hK hG r fun _ z => nomatch z)
  | _, _, _, _, .lstO h r, k => .lstO (k _ (by simp) _ h) (Reps.mono hK hG r fun a z => k a (List.mem_cons_of_mem _ z))
  | _, _, _, _, .scr h, _ => .scr (hG.seq h)
  | _, _, _, _, .insF h r, k => .insF (hG _ _ h) (Repf.mono hK hG r fun _ z => nomatch z)
  | _, _, _, _, .insS h r, k => .insS (k _ (by simp) _ h) (Repf.mono hK hG r fun _ z => nomatch z)
  | _, _, _, _, .insO h r, k => .insO (k _ (by simp) _ h) (Repf.mono hK hG r fun a z => k a (List.mem_cons_of_mem _ z))
theorem Reps.mono (hK : ∀ a vs, SqT W.K H a vs → SqT W.K H' a vs) (hG : Same G G') : ∀ {m : Mode} {d : List D} {v : List V} {A : List Addr}, Reps W H G m d v A → (∀ a ∈ A, ∀ o, H a = some o → H' a = some o) → Reps W H' G' m d v A
  | _, _, _, _, .nil m, _ => .nil m
  | _, _, _, _, .cons h r, k => .cons (Rep.mono hK hG h fun a z => k a (List.mem_append_left _ z)) (Reps.mono hK hG r fun a z => k a (List.mem_append_right _ z))
theorem Repf.mono (hK : ∀ a vs, SqT W.K H a vs → SqT W.K H' a vs) (hG : Same G G') : ∀ {m : Mode} {d : List (Str × D)} {v : List (Str × V)} {A : List Addr}, Repf W H G m d v A → (∀ a ∈ A, ∀ o, H a = some o → H' a = some o) → Repf W H' G' m d v A
  | _, _, _, _, .nil m, _ => .nil m
  | _, _, _, _, .cons h r, k => .cons (Rep.mono hK hG h fun a z => k a (List.mem_append_left _ z)) (Repf.mono hK hG r fun a z => k a (List.mem_append_right _ z))
end
mutual
theorem Rep.own : ∀ {m : Mode} {d : D} {v : V} {A : List Addr}, Rep W H G m d v A → ∀ a ∈ A, ∃ o, H a = some o ∧ Mutb o
  | _, _, _, _, .non _ => fun _ z => nomatch z
  | _, _, _, _, .bl _ _ => fun _ z => nomatch z
  | _, _, _, _, .int _ _ => fun _ z => nomatch z
  | _, _, _, _, .str _ _ => fun _ z => nomatch z
  | _, _, _, _, .ty _ _ => fun _ z => nomatch z
  | _, _, _, _, .cl _ _ => fun _ z => nomatch z
  | _, _, _, _, .exc _ _ => fun _ z => nomatch z
  | _, _, _, _, .tup h r => fun a z => Reps.own r a z
  | _, _, _, _, .lstF _ _ => fun _ z => nomatch z
  | _, _, _, _, .scr _ => fun _ z => nomatch z
  | _, _, _, _, .insF _ _ => fun _ z => nomatch z
  | _, _, _, _, .lstS h r => fun a z => by
    rw [List.mem_singleton] at z
    subst z
    exact ⟨_, h, trivial⟩
  | _, _, _, _, .lstO h r => fun a z => by
    rcases List.mem_cons.mp z with z | z
    · subst z
      exact ⟨_, h, trivial⟩
    · exact Reps.own r a z
  | _, _, _, _, .insS h r => fun a z => by
    rw [List.mem_singleton] at z
    subst z
    exact ⟨_, h, trivial⟩
  | _, _, _, _, .insO h r => fun a z => by
    rcases List.mem_cons.mp z with z | z
    · subst z
      exact ⟨_, h, trivial⟩
    · exact Repf.own r a z
theorem Reps.own : ∀ {m : Mode} {d : List D} {v : List V} {A : List Addr}, Reps W H G m d v A → ∀ a ∈ A, ∃ o, H a = some o ∧ Mutb o
  | _, _, _, _, .nil _ => fun _ z => nomatch z
  | _, _, _, _, .cons h r => fun a z => (List.mem_append.mp z).elim (Rep.own h a) (Reps.own r a)
theorem Repf.own : ∀ {m : Mode} {d : List (Str × D)} {v : List (Str × V)} {A : List Addr}, Repf W H G m d v A → ∀ a ∈ A, ∃ o, H a = some o ∧ Mutb o
  | _, _, _, _, .nil _ => fun _ z => nomatch z
  | _, _, _, _, .cons h r => fun a z => (List.mem_append.mp z).elim (Rep.own h a) (Repf.own r a)
end
mutual
/-- what is closed leans on no frozen object -/
theorem Rep.anyG : ∀ {m : Mode} {d : D} {v : V} {A : List Addr}, Rep W H G m d v A → m = .O → Rep W H G' m d v A
  | _, _, _, _, .non m, _ => .non m
  | _, _, _, _, .bl m b, _ => .bl m b
  | _, _, _, _, .int m b, _ => .int m b
  | _, _, _, _, .str m b, _ => .str m b
  | _, _, _, _, .ty m b, _ => .ty m b
  | _, _, _, _, .cl m b, _ => .cl m b
  | _, _, _, _, .exc m b, _ => .exc m b
  | _, _, _, _, .tup h r, k => .tup h (Reps.anyG r k)
  | _, _, _, _, .lstO h r, k => .lstO h (Reps.anyG r k)
  | _, _, _, _, .insO h r, k => .insO h (Repf.anyG r k)
  | _, _, _, _, .lstF h r, k => nomatch k
  | _, _, _, _, .lstS h r, k => nomatch k
  | _, _, _, _, .scr h, k => nomatch k
  | _, _, _, _, .insF h r, k => nomatch k
  | _, _, _, _, .insS h r, k => nomatch k
theorem Reps.anyG : ∀ {m : Mode} {d : List D} {v : List V} {A : List Addr}, Reps W H G m d v A → m = .O → Reps W H G' m d v A
  | _, _, _, _, .nil m, _ => .nil m
  | _, _, _, _, .cons h r, k => .cons (Rep.anyG h k) (Reps.anyG r k)
theorem Repf.anyG : ∀ {m : Mode} {d : List (Str × D)} {v : List (Str × V)} {A : List Addr}, Repf W H G m d v A → m = .O → Repf W H G' m d v A
  | _, _, _, _, .nil m, _ => .nil m
  | _, _, _, _, .cons h r, k => .cons (Rep.anyG h k) (Repf.anyG r k)
end
mutual
/-- flat things: any mode, any frozen heap, nothing owned -/
theorem Rep.flat : ∀ {m : Mode} {d : D} {v : V} {A : List Addr}, Rep W H G m d v A → d.flat = true → A = [] ∧ ∀ m' G', Rep W H G' m' d v []
  | _, _, _, _, .non m, _ => ⟨rfl, fun m' _ => .non m'⟩
  | _, _, _, _, .bl m b, _ => ⟨rfl, fun m' _ => .bl m' b⟩
  | _, _, _, _, .int m b, _ => ⟨rfl, fun m' _ => .int m' b⟩
  | _, _, _, _, .str m b, _ => ⟨rfl, fun m' _ => .str m' b⟩
  | _, _, _, _, .ty m b, _ => ⟨rfl, fun m' _ => .ty m' b⟩
  | _, _, _, _, .cl m b, _ => ⟨rfl, fun m' _ => .cl m' b⟩
  | _, _, _, _, .exc m b, _ => ⟨rfl, fun m' _ => .exc m' b⟩
  | _, _, _, _, .tup h r, k => by
    obtain ⟨e, q⟩ := Reps.flat r (by rw [D.flat] at k; exact k)
    exact ⟨e, fun m' G' => .tup h (q m' G')⟩
  | _, _, _, _, .lstF h r, k => by rw [D.flat] at k; cases k
  | _, _, _, _, .lstS h r, k => by rw [D.flat] at k; cases k
  | _, _, _, _, .lstO h r, k => by rw [D.flat] at k; cases k
  | _, _, _, _, .scr h, k => by rw [D.flat] at k; cases k
  | _, _, _, _, .insF h r, k => by rw [D.flat] at k; cases k
  | _, _, _, _, .insS h r, k => by rw [D.flat] at k; cases k
  | _, _, _, _, .insO h r, k => by rw [D.flat] at k; cases k
theorem Reps.flat : ∀ {m : Mode} {d : List D} {v : List V} {A : List Addr}, Reps W H G m d v A → D.flats d = true → A = [] ∧ ∀ m' G', Reps W H G' m' d v []
  | _, _, _, _, .nil m, _ => ⟨rfl, fun m' _ => .nil m'⟩
  | _, _, _, _, .cons h r, k => by
    rw [D.flats, Bool.and_eq_true] at k
    obtain ⟨e1, q1⟩ := Rep.flat h k.1
    obtain ⟨e2, q2⟩ := Reps.flat r k.2
    subst e1 e2
    exact ⟨rfl, fun m' G' => .cons (q1 m' G') (q2 m' G')⟩
end
mutual
/-- what is owned is frozen: looked at -/
theorem Rep.froze (hG : Same G G') : ∀ {m : Mode} {d : D} {v : V} {A : List Addr}, Rep W H G m d v A → (∀ a ∈ A, G' a = H a) → Rep W H G' .F d v []
  | _, _, _, _, .non m, _ => .non _
  | _, _, _, _, .bl m b, _ => .bl _ b
  | _, _, _, _, .int m b, _ => .int _ b
  | _, _, _, _, .str m b, _ => .str _ b
  | _, _, _, _, .ty m b, _ => .ty _ b
  | _, _, _, _, .cl m b, _ => .cl _ b
  | _, _, _, _, .exc m b, _ => .exc _ b
  | _, _, _, _, .tup h r, k => .tup h (Reps.froze hG r k)
  | _, _, _, _, .lstF h r, k => .lstF (hG _ _ h) (Reps.froze hG r fun _ z => nomatch z)
  | _, _, _, _, .lstS h r, k => .lstF ((k _ (by simp)).trans h) (Reps.froze hG r fun _ z => nomatch z)
  | _, _, _, _, .lstO h r, k => .lstF ((k _ (by simp)).trans h) (Reps.froze hG r fun a z => k a (List.mem_cons_of_mem _ z))
  | _, _, _, _, .scr h, _ => .scr (hG.seq h)
  | _, _, _, _, .insF h r, k => .insF (hG _ _ h) (Repf.froze hG r fun _ z => nomatch z)
  | _, _, _, _, .insS h r, k => .insF ((k _ (by simp)).trans h) (Repf.froze hG r fun _ z => nomatch z)
  | _, _, _, _, .insO h r, k => .insF ((k _ (by simp)).trans h) (Repf.froze hG r fun a z => k a (List.mem_cons_of_mem _ z))
theorem Reps.froze (hG : Same G G') : ∀ {m : Mode} {d : List D} {v : List V} {A : List Addr}, Reps W H G m d v A → (∀ a ∈ A, G' a = H a) → Reps W H G' .F d v []
  | _, _, _, _, .nil m, _ => .nil _
  | _, _, _, _, .cons h r, k => by
    have z := Reps.cons (Rep.froze hG h fun a z => k a (List.mem_append_left _ z)) (Reps.froze hG r fun a z => k a (List.mem_append_right _ z))
    exact z
theorem Repf.froze (hG : Same G G') : ∀ {m : Mode} {d : List (Str × D)} {v : List (Str × V)} {A : List Addr}, Repf W H G m d v A → (∀ a ∈ A, G' a = H a) → Repf W H G' .F d v []
  | _, _, _, _, .nil m, _ => .nil _
  | _, _, _, _, .cons (n := n) h r, k => by
    have z := Repf.cons (n := n) (Rep.froze hG h fun a z => k a (List.mem_append_left _ z)) (Repf.froze hG r fun a z => k a (List.mem_append_right _ z))
    exact z
end
mutual
theorem Rep.Fnil : ∀ {m : Mode} {d : D} {v : V} {A : List Addr}, Rep W H G m d v A → m = .F → A = []
  | _, _, _, _, .non m, _ => rfl
  | _, _, _, _, .bl m b, _ => rfl
  | _, _, _, _, .int m b, _ => rfl
  | _, _, _, _, .str m b, _ => rfl
  | _, _, _, _, .ty m b, _ => rfl
  | _, _, _, _, .cl m b, _ => rfl
  | _, _, _, _, .exc m b, _ => rfl
  | _, _, _, _, .tup h r, k => Reps.Fnil r k
  | _, _, _, _, .lstF h r, k => rfl
  | _, _, _, _, .scr h, _ => rfl
  | _, _, _, _, .insF h r, k => rfl
  | _, _, _, _, .lstS h r, k => nomatch k
  | _, _, _, _, .lstO h r, k => nomatch k
  | _, _, _, _, .insS h r, k => nomatch k
  | _, _, _, _, .insO h r, k => nomatch k
theorem Reps.Fnil : ∀ {m : Mode} {d : List D} {v : List V} {A : List Addr}, Reps W H G m d v A → m = .F → A = []
  | _, _, _, _, .nil m, _ => rfl
  | _, _, _, _, .cons h r, k => by
    rw [Rep.Fnil h k, Reps.Fnil r k]; rfl
end
theorem Rep.nrm {m : Mode} {d : D} {v : V} {A : List Addr} (r : Rep W H G m d v A) : Rep W H G (nrm m d).m (nrm m d).d v A := by
  unfold Tr.nrm
  split
  · rename_i e
    obtain ⟨e1, q⟩ := r.flat e
    subst e1
    exact q _ _
  · exact r
theorem Reps.len {m : Mode} : ∀ {ds : List D} {vs : List V} {A : List Addr}, Reps W H G m ds vs A → ds.length = vs.length
  | _, _, _, .nil _ => rfl
  | _, _, _, .cons _ r => by rw [List.length_cons, List.length_cons, Reps.len r]
end
inductive RepL (W : Wd) (H G : Hp) : List Val → List V → List Addr → Prop
  | nil : RepL W H G [] [] []
  | cons {r : Val} {rs : List Val} {v : V} {vs : List V} {A B : List Addr} : Rep W H G r.m r.d v A → RepL W H G rs vs B → RepL W H G (r :: rs) (v :: vs) (A ++ B)
theorem RepL.mono {W : Wd} {H G H' G' : Hp} (hK : ∀ a vs, SqT W.K H a vs → SqT W.K H' a vs) (hG : Same G G') : ∀ {d : List Val} {v : List V} {A : List Addr}, RepL W H G d v A → (∀ a ∈ A, ∀ o, H a = some o → H' a = some o) → RepL W H' G' d v A
  | _, _, _, .nil, _ => .nil
  | _, _, _, .cons h r, k => .cons (h.mono hK hG fun a z => k a (List.mem_append_left _ z)) (RepL.mono hK hG r fun a z => k a (List.mem_append_right _ z))
theorem RepL.own {W : Wd} {H G : Hp} : ∀ {d : List Val} {v : List V} {A : List Addr}, RepL W H G d v A → ∀ a ∈ A, ∃ o, H a = some o ∧ Mutb o
  | _, _, _, .nil => fun _ z => nomatch z
  | _, _, _, .cons h r => fun a z => (List.mem_append.mp z).elim (h.own a) (RepL.own r a)
theorem RepL.froze {W : Wd} {H G G' : Hp} (hG : Same G G') : ∀ {d : List Val} {v : List V} {A : List Addr}, RepL W H G d v A → (∀ a ∈ A, G' a = H a) → Reps W H G' .F (d.map (·.d)) v []
  | _, _, _, .nil, _ => .nil _
  | _, _, _, .cons h r, k => by
    have z := Reps.cons (h.froze hG fun a z => k a (List.mem_append_left _ z)) (RepL.froze hG r fun a z => k a (List.mem_append_right _ z))
    exact z
def Unl (ρ : Env) (As : Nat → List Addr) (a : Addr) : Prop := ∃ (i : Nat) (s : Slot), ρ[i]? = some (some s) ∧ s.lk = false ∧ a ∈ As i
structure Sta (W : Wd) (ρ : Env) (σ : L2.St) (H F G : Hp) (As : Nat → List Addr) : Prop where
  len : ρ.length = σ.length
  slot : ∀ (i : Nat) (s : Slot), ρ[i]? = some (some s) → ∃ v, σ[i]? = some (some v) ∧ Rep W H F s.m s.d v (As i)
  lock : ∀ (i : Nat) (s : Slot), ρ[i]? = some (some s) → s.lk = true → ∀ a ∈ As i, G a = H a
  free : ∀ (i : Nat) (s : Slot), ρ[i]? = some (some s) → s.lk = false → ∀ a ∈ As i, G a = none
  none : ∀ i, (∀ s, ρ[i]? ≠ some (some s)) → As i = []
  nd : ∀ i, (As i).Nodup
  dj : ∀ i j a, a ∈ As i → a ∈ As j → i = j
  fo : ∀ i a, a ∈ As i → F a = Option.none
  fg : Same F G
  gh : Same G H
section
variable {W : Wd} {ρ ρ' : Env} {σ σ' : L2.St} {H F G H' F' G' : Hp} {As As' : Nat → List Addr}
theorem Sta.has (S : Sta W ρ σ H F G As) {i : Nat} {a : Addr} (h : a ∈ As i) : ∃ s, ρ[i]? = some (some s) := by
  refine Classical.byContradiction fun q => ?_
  have e := S.none i fun s z => q ⟨s, z⟩
  rw [e] at h
  cases h
theorem Sta.own (S : Sta W ρ σ H F G As) {i : Nat} {a : Addr} (h : a ∈ As i) : ∃ o, H a = some o ∧ Mutb o := by
  obtain ⟨s, e⟩ := S.has h
  obtain ⟨v, _, r⟩ := S.slot i s e
  exact r.own a h
theorem Sta.unl (S : Sta W ρ σ H F G As) {a : Addr} (h : Unl ρ As a) : (∃ o, H a = some o ∧ Mutb o) ∧ G a = Option.none := by
  obtain ⟨i, s, e, l, m⟩ := h
  exact ⟨S.own m, S.free i s e l a m⟩
/-- tuples stand still -/
theorem Sta.tup (S : Sta W ρ σ H F G As) (keep : ∀ a o, H a = some o → ¬ Unl ρ As a → H' a = some o) : ∀ a vs, SqT W.K H a vs → SqT W.K H' a vs := by
  intro a vs h
  have go : ∀ o, H a = some o → ¬ Mutb o → H' a = some o := fun o e nm => by
    refine keep a o e fun u => ?_
    obtain ⟨⟨o', e', mu⟩, _⟩ := S.unl u
    rw [e] at e'
    cases e'
    exact nm mu
  rcases h with (h | ⟨o, h⟩) | h
  · exact .inl (.inl (go _ h fun z => z))
  · exact .inl (.inr ⟨o, go _ h fun z => z⟩)
  · exact .inr h
/-- what an expression may have changed -/
structure Post (W : Wd) (ρ : Env) (σ : L2.St) (H F G : Hp) (As : Nat → List Addr) (ρ' : Env) (H' G' : Hp) (As' : Nat → List Addr) : Prop where
  st : Sta W ρ' σ H' F G' As'
  keep : ∀ a o, H a = some o → ¬ Unl ρ As a → H' a = some o
  dom : ∀ a, H' a = none → H a = none
  gg : Same G G'
  gn : ∀ a, G a = none → G' a ≠ none → H a = none ∨ ∃ i, a ∈ As i
  an : ∀ i a, a ∈ As' i → (∃ j, a ∈ As j) ∨ H a = none
  ul : ∀ a, Unl ρ' As' a → Unl ρ As a ∨ H a = none
  lk : ∀ (i : Nat) (s : Slot), ρ[i]? = some (some s) → s.lk = true → ρ'[i]? = some (some s) ∧ As' i = As i
  nw : ∀ (i : Nat), ρ[i]? = some none → ρ'[i]? = some none
/-- a value at hand, beside the slots -/
structure Tmp (W : Wd) (σ : L2.St) (H G : Hp) (As : Nat → List Addr) (B : List Addr) : Prop where
  nd : B.Nodup
  g : ∀ b ∈ B, G b = none
  h : ∀ b ∈ B, H b ≠ none
  a : ∀ b ∈ B, ∀ i, b ∉ As i
theorem Post.refl (S : Sta W ρ σ H F G As) : Post W ρ σ H F G As ρ H G As :=
  ⟨S, fun _ _ e _ => e, fun _ e => e, Same.refl _, fun _ e n => absurd e n, fun i _ h => .inl ⟨i, h⟩, fun _ h => .inl h, fun _ _ e _ => ⟨e, rfl⟩, fun _ e => e⟩
theorem Post.trans {ρ1 ρ2 : Env} {H1 G1 H2 G2 : Hp} {As1 As2 : Nat → List Addr} (S : Sta W ρ σ H F G As) (p : Post W ρ σ H F G As ρ1 H1 G1 As1) (q : Post W ρ1 σ H1 F G1 As1 ρ2 H2 G2 As2) : Post W ρ σ H F G As ρ2 H2 G2 As2 where
  st := q.st
  keep := fun a o e n => q.keep a o (p.keep a o e n) fun u => by
    rcases p.ul a u with z | z
    · exact n z
    · rw [e] at z; cases z
  dom := fun a e => p.dom a (q.dom a e)
  gg := p.gg.trans q.gg
  gn := fun a e n => by
    cases z : G1 a with
    | some o => exact p.gn a e (by rw [z]; exact fun q => nomatch q)
    | none =>
      rcases q.gn a z n with y | ⟨i, y⟩
      · exact .inl (p.dom a y)
      · rcases p.an i a y with y | y
        · exact .inr y
        · exact .inl y
  an := fun i a h => by
    rcases q.an i a h with ⟨j, y⟩ | y
    · exact p.an j a y
    · exact .inr (p.dom a y)
  ul := fun a h => by
    rcases q.ul a h with y | y
    · exact p.ul a y
    · exact .inr (p.dom a y)
  lk := fun i s e l => by
    obtain ⟨e1, a1⟩ := p.lk i s e l
    obtain ⟨e2, a2⟩ := q.lk i s e1 l
    exact ⟨e2, a2.trans a1⟩
  nw := fun i e => q.nw i (p.nw i e)
/-- what was at hand is still there -/
theorem Post.tmp (p : Post W ρ σ H F G As ρ' H' G' As') (S : Sta W ρ σ H F G As) {B : List Addr} (t : Tmp W σ H G As B) :
    Tmp W σ H' G' As' B ∧ (∀ b ∈ B, ∀ o, H b = some o → H' b = some o) := by
  have k : ∀ b ∈ B, ∀ o, H b = some o → H' b = some o := fun b hb o e => p.keep b o e fun ⟨i, s, _, _, z⟩ => t.a b hb i z
  refine ⟨⟨t.nd, fun b hb => ?_, fun b hb e => t.h b hb (p.dom b e), fun b hb i z => ?_⟩, k⟩
  · cases z : G' b with
    | none => rfl
    | some o =>
      rcases p.gn b (t.g b hb) (by rw [z]; exact fun q => nomatch q) with y | ⟨i, y⟩
      · exact absurd y (t.h b hb)
      · exact absurd y (t.a b hb i)
  · rcases p.an i b z with ⟨j, y⟩ | y
    · exact t.a b hb j y
    · exact t.h b hb y
theorem Post.tups (p : Post W ρ σ H F G As ρ' H' G' As') (S : Sta W ρ σ H F G As) : ∀ a vs, SqT W.K H a vs → SqT W.K H' a vs := S.tup p.keep
end
def NoLk (ρ : Env) : Prop := ∀ (i : Nat) (s : Slot), ρ[i]? = some (some s) → s.lk = false
def SimE (W : Wd) (t : TE) (f : SE) : Prop :=
  ∀ (ρ : Env) (σ : L2.St) (H F G : Hp) (As : Nat → List Addr) (r : Val) (ρ' : Env) (Q : VK), Sta W ρ σ H F G As → f ρ = some (r, ρ') →
    (∀ v H' G' As' B, Post W ρ σ H F G As ρ' H' G' As' → Rep W H' G' r.m r.d v B → Tmp W σ H' G' As' B → (∀ b ∈ B, H b = none ∨ ∃ i, b ∈ As i) → Q v H') → t σ H Q
def SimA (W : Wd) (t : TA) (f : SA) : Prop :=
  ∀ (ρ : Env) (σ : L2.St) (H F G : Hp) (As : Nat → List Addr) (rs : List Val) (ρ' : Env) (Q : List V → Hp → Prop), Sta W ρ σ H F G As → f ρ = some (rs, ρ') →
    (∀ vs H' G' As' B, Post W ρ σ H F G As ρ' H' G' As' → RepL W H' G' rs vs B → Tmp W σ H' G' As' B → (∀ b ∈ B, H b = none ∨ ∃ i, b ∈ As i) → Q vs H') → t σ H Q
def SimT (W : Wd) (t : TT) (f : SB) : Prop :=
  ∀ (ρ : Env) (σ : L2.St) (H F G : Hp) (As : Nat → List Addr) (b : Bool) (ρ' : Env) (Q : Bool → Hp → Prop), Sta W ρ σ H F G As → f ρ = some (b, ρ') →
    (∀ H' As', Post W ρ σ H F G As ρ' H' G As' → (NoLk ρ → NoLk ρ') → Q b H') → t σ H Q
/-- what a rule over values gives -/
structure VPost (W : Wd) (H G : Hp) (A : List Addr) (r : Val) (v : V) (H' G' : Hp) (C : List Addr) : Prop where
  keep : ∀ a o, H a = some o → H' a = some o
  gg : Same G G'
  gh : Same G' H'
  gn : ∀ a, G a = none → G' a ≠ none → H a = none ∨ a ∈ A
  rep : Rep W H' G' r.m r.d v C
  nd : C.Nodup
  cg : ∀ c ∈ C, G' c = none
  cn : ∀ c ∈ C, H c = none ∨ c ∈ A
abbrev RV := List V → Hp → VK → Prop
def VOp (W : Wd) (rr : RV) (g : List Val → Option Val) : Prop :=
  ∀ (H G : Hp) (rs : List Val) (vs : List V) (A : List Addr) (r : Val) (Q : VK), Same G H → RepL W H G rs vs A → A.Nodup → (∀ a ∈ A, G a = none) → g rs = some r →
    (∀ v H' G' C, VPost W H G A r v H' G' C → Q v H') → rr vs H Q
end Tr
namespace Tr
open PySem L2
section
variable {W : Wd} {ρ ρ' : Env} {σ σ' : L2.St} {H F G H' F' G' : Hp} {As As' : Nat → List Addr}
theorem Tmp.back {B : List Addr} (t : Tmp W σ H G' As B) (g : Same G G') : Tmp W σ H G As B := by
  refine ⟨t.nd, fun b hb => ?_, t.h, t.a⟩
  cases q : G b with
  | none => rfl
  | some o =>
    have z := t.g b hb
    rw [g b o q] at z
    cases z
/-- also look at A -/
def lookAt (G H : Hp) (A : List Addr) : Hp := fun a => if a ∈ A then H a else G a
theorem lookAt_in {A : List Addr} {a : Addr} (h : a ∈ A) : lookAt G H A a = H a := if_pos h
theorem lookAt_out {A : List Addr} {a : Addr} (h : a ∉ A) : lookAt G H A a = G a := if_neg h
theorem lookAt_same {A : List Addr} (h : ∀ a ∈ A, G a = none) : Same G (lookAt G H A) := fun a o e => by
  rw [lookAt_out fun z => by rw [h a z] at e; cases e]
  exact e
theorem lookAt_sub {A : List Addr} (h : Same G H) : Same (lookAt G H A) H := fun a o e => by
  by_cases z : a ∈ A
  · rw [lookAt_in z] at e; exact e
  · rw [lookAt_out z] at e; exact h a o e
theorem tmp_nil : Tmp W σ H G As [] := ⟨List.nodup_nil, (fun _ z => nomatch z), (fun _ z => nomatch z), (fun _ z => nomatch z)⟩
theorem get_set {α : Type} (l : List α) (i j : Nat) (x : α) : (l.set i x)[j]? = if j = i ∧ i < l.length then some x else l[j]? := by
  by_cases h : j = i
  · subst h
    by_cases q : j < l.length
    · rw [List.getElem?_set_self q, if_pos ⟨rfl, q⟩]
    · rw [if_neg fun z => q z.2, List.getElem?_eq_none (by simpa using q), List.getElem?_eq_none (by simpa using q)]
  · rw [List.getElem?_set_ne (Ne.symm h), if_neg fun z => h z.1]
theorem lt_of_get {α : Type} {l : List α} {i : Nat} {x : α} (h : l[i]? = some x) : i < l.length := (List.getElem?_eq_some_iff.mp h).1
theorem sim_var (i : Nat) : SimE W (tVar i) (sVar i) := by
  intro ρ σ H F G As r ρ' Q S e k
  unfold sVar at e
  split at e
  case h_2 => cases e
  rename_i s hs
  obtain ⟨v, hv, rep⟩ := S.slot i s hs
  refine ⟨v, hv, ?_⟩
  split at e
  · rename_i hf
    cases e
    obtain ⟨_, q⟩ := rep.flat hf
    exact k v H G As [] (Post.refl S) (q .O G) tmp_nil fun _ z => nomatch z
  split at e
  · rename_i hm
    cases e
    have ea := rep.Fnil hm
    rw [hm, ea] at rep
    exact k v H G As [] (Post.refl S) (rep.mono (fun _ _ z => z) S.fg fun _ z => nomatch z) tmp_nil fun _ z => nomatch z
  · cases e
    have hi := lt_of_get hs
    have gs : Same G (lookAt G H (As i)) := fun a o e => by
      by_cases z : a ∈ As i
      · rw [lookAt_in z]; exact S.gh a o e
      · rw [lookAt_out z]; exact e
    have get : ∀ (j : Nat) (t : Slot), (ρ.set i (some { s with lk := true }))[j]? = some (some t) → (j = i ∧ t = { s with lk := true }) ∨ (j ≠ i ∧ ρ[j]? = some (some t)) := fun j t h => by
      rw [get_set] at h
      split at h
      · rename_i q
        cases h
        exact .inl ⟨q.1, rfl⟩
      · rename_i q
        by_cases z : j = i
        · exact absurd ⟨z, hi⟩ q
        · exact .inr ⟨z, h⟩
    have st : Sta W (ρ.set i (some { s with lk := true })) σ H F (lookAt G H (As i)) As := by
      refine ⟨by rw [List.length_set]; exact S.len, fun j t h => ?_, fun j t h l a ha => ?_, fun j t h l a ha => ?_, fun j h => S.none j fun t z => ?_, S.nd, S.dj, S.fo, fun a o e => gs a o (S.fg a o e), lookAt_sub S.gh⟩
      · rcases get j t h with ⟨e1, e2⟩ | ⟨_, e2⟩
        · subst e1 e2
          exact ⟨v, hv, rep⟩
        · exact S.slot j t e2
      · rcases get j t h with ⟨e1, e2⟩ | ⟨e1, e2⟩
        · subst e1
          exact lookAt_in ha
        · rw [lookAt_out fun z => e1 (S.dj j i a ha z)]
          exact S.lock j t e2 l a ha
      · rcases get j t h with ⟨e1, e2⟩ | ⟨e1, e2⟩
        · subst e2
          cases l
        · rw [lookAt_out fun z => e1 (S.dj j i a ha z)]
          exact S.free j t e2 l a ha
      · by_cases q : j = i
        · subst q
          exact h { s with lk := true } (by rw [List.getElem?_set_self hi])
        · exact h t (by rw [List.getElem?_set_ne (Ne.symm q)]; exact z)
    refine k v H _ As [] ⟨st, fun _ _ e _ => e, fun _ e => e, gs, fun a e n => ?_, fun i _ h => .inl ⟨i, h⟩, fun a h => .inl ?_, fun j t h l => ⟨?_, rfl⟩, fun j h => ?_⟩ (rep.froze (fun a o e => gs a o (S.fg a o e)) fun a ha => lookAt_in ha) tmp_nil fun _ z => nomatch z
    · by_cases z : a ∈ As i
      · exact .inr ⟨i, z⟩
      · rw [lookAt_out z] at n
        exact absurd e n
    · obtain ⟨j, t, h1, h2, h3⟩ := h
      rcases get j t h1 with ⟨e1, e2⟩ | ⟨e1, e2⟩
      · subst e2
        cases h2
      · exact ⟨j, t, e2, h2, h3⟩
    · by_cases q : j = i
      · subst q
        rw [hs] at h
        cases h
        rw [List.getElem?_set_self hi]
        obtain ⟨sm, sl, sd⟩ := s
        cases l
        rfl
      · rw [List.getElem?_set_ne (Ne.symm q)]
        exact h
    · by_cases q : j = i
      · subst q
        rw [hs] at h
        cases h
      · rw [List.getElem?_set_ne (Ne.symm q)]
        exact h
theorem sim_move (i : Nat) : SimE W (tVar i) (sMove i) := by
  intro ρ σ H F G As r ρ' Q S e k
  unfold sMove at e
  split at e
  case h_2 => cases e
  rename_i s hs
  obtain ⟨v, hv, rep⟩ := S.slot i s hs
  refine ⟨v, hv, ?_⟩
  split at e
  · rename_i hf
    cases e
    obtain ⟨_, q⟩ := rep.flat hf
    exact k v H G As [] (Post.refl S) (q .O G) tmp_nil fun _ z => nomatch z
  split at e
  · rename_i hm
    cases e
    have ea := rep.Fnil hm
    rw [hm, ea] at rep
    exact k v H G As [] (Post.refl S) (rep.mono (fun _ _ z => z) S.fg fun _ z => nomatch z) tmp_nil fun _ z => nomatch z
  split at e
  · cases e
  · rename_i hl
    have hl' : s.lk = false := by simpa using hl
    cases e
    have hi := lt_of_get hs
    have get : ∀ (j : Nat) (t : Slot), (ρ.set i none)[j]? = some (some t) → j ≠ i ∧ ρ[j]? = some (some t) := fun j t h => by
      rw [get_set] at h
      split at h
      · cases h
      · rename_i q
        by_cases z : j = i
        · exact absurd ⟨z, hi⟩ q
        · exact ⟨z, h⟩
    have st : Sta W (ρ.set i none) σ H F G (fun j => if j = i then [] else As j) := by
      refine ⟨by rw [List.length_set]; exact S.len, fun j t h => ?_, fun j t h l a ha => ?_, fun j t h l a ha => ?_, fun j h => ?_, fun j => ?_, fun j1 j2 a h1 h2 => ?_, fun j a h => ?_, S.fg, S.gh⟩
      · obtain ⟨e1, e2⟩ := get j t h
        rw [if_neg e1]
        exact S.slot j t e2
      · obtain ⟨e1, e2⟩ := get j t h
        rw [if_neg e1] at ha
        exact S.lock j t e2 l a ha
      · obtain ⟨e1, e2⟩ := get j t h
        rw [if_neg e1] at ha
        exact S.free j t e2 l a ha
      · by_cases q : j = i
        · exact if_pos q
        · rw [if_neg q]
          refine S.none j fun t z => h t ?_
          rw [List.getElem?_set_ne (Ne.symm q)]
          exact z
      · by_cases q : j = i
        · rw [if_pos q]; exact List.nodup_nil
        · rw [if_neg q]; exact S.nd j
      · by_cases q : j1 = i
        · rw [if_pos q] at h1; cases h1
        · by_cases q2 : j2 = i
          · rw [if_pos q2] at h2; cases h2
          · rw [if_neg q] at h1
            rw [if_neg q2] at h2
            exact S.dj _ _ _ h1 h2
      · by_cases q : j = i
        · rw [if_pos q] at h; cases h
        · rw [if_neg q] at h
          exact S.fo _ _ h
    refine k v H G _ (As i) ⟨st, fun _ _ e _ => e, fun _ e => e, Same.refl _, fun _ e n => absurd e n, fun j a h => .inl ?_, fun a h => .inl ?_, fun j t h l => ?_, fun j h => ?_⟩ (rep.mono (fun _ _ z => z) S.fg fun _ _ _ z => z)
      ⟨S.nd i, fun b hb => S.free i s hs hl' b hb, fun b hb => ?_, fun b hb j => ?_⟩ fun b hb => .inr ⟨i, hb⟩
    · by_cases q : j = i
      · rw [if_pos q] at h; cases h
      · rw [if_neg q] at h; exact ⟨j, h⟩
    · obtain ⟨j, t, h1, h2, h3⟩ := h
      obtain ⟨e1, e2⟩ := get j t h1
      simp only [if_neg e1] at h3
      exact ⟨j, t, e2, h2, h3⟩
    · have q : j ≠ i := fun z => by
        subst z
        rw [hs] at h
        cases h
        rw [l] at hl'
        cases hl'
      exact ⟨by rw [List.getElem?_set_ne (Ne.symm q)]; exact h, if_neg q⟩
    · have q : j ≠ i := fun z => by
        subst z
        rw [hs] at h
        cases h
      rw [List.getElem?_set_ne (Ne.symm q)]
      exact h
    · obtain ⟨o, eo, _⟩ := S.own hb
      rw [eo]
      exact fun z => nomatch z
    · intro z
      by_cases q : j = i
      · rw [if_pos q] at z; cases z
      · rw [if_neg q] at z
        exact q (S.dj _ _ _ z hb)
theorem sim_con {d : D} {v : V} (h : ∀ H G, Rep W H G .O d v []) : SimE W (tC v) (sCon d) := by
  intro ρ σ H F G As r ρ' Q S e k
  cases e
  exact k v H G As [] (Post.refl S) (h H G) tmp_nil fun _ z => nomatch z
theorem restore_get : ∀ (ρ ρ' : Env), ρ.length = ρ'.length → ∀ i : Nat, (restore ρ ρ')[i]? = (match ρ[i]?, ρ'[i]? with | some a, some b => some (relock a b) | _, b => b)
  | [], [], _, i => by simp [restore]
  | a :: ρ, b :: ρ', h, 0 => by simp [restore]
  | a :: ρ, b :: ρ', h, i + 1 => by
    have q := restore_get ρ ρ' (by simpa using h) i
    simpa [restore] using q
  | [], _ :: _, h, _ => by simp at h
  | _ :: _, [], h, _ => by simp at h
theorem restore_len : ∀ (ρ ρ' : Env), (restore ρ ρ').length = ρ'.length
  | [], ρ' => by simp [restore]
  | _ :: _, [] => by simp [restore]
  | _ :: ρ, _ :: ρ' => by simp [restore, restore_len ρ ρ']
/-- the locks taken back -/
theorem Post.restore (p : Post W ρ σ H F G As ρ' H' G' As') (S : Sta W ρ σ H F G As) : Post W ρ σ H F G As (Tr.restore ρ ρ') H' G As' := by
  have hl : ρ.length = ρ'.length := S.len.trans p.st.len.symm
  have get : ∀ (i : Nat) (s : Slot), (Tr.restore ρ ρ')[i]? = some (some s) → ∃ a b, ρ[i]? = some (some a) ∧ ρ'[i]? = some (some b) ∧ s = { b with lk := a.lk } := fun i s h => by
    rw [restore_get _ _ hl] at h
    cases e1 : ρ[i]? with
    | none =>
      have q : ρ'[i]? = none := List.getElem?_eq_none (by rw [← hl]; simpa using e1)
      rw [e1, q] at h
      cases h
    | some x =>
      cases x with
      | none =>
        have q := p.nw i e1
        rw [e1, q] at h
        cases h
      | some a =>
        cases e2 : ρ'[i]? with
        | none =>
          rw [e1, e2] at h
          cases h
        | some y =>
          rw [e1, e2] at h
          cases y with
          | none => cases h
          | some b =>
            cases h
            exact ⟨a, b, rfl, rfl, rfl⟩
  have put : ∀ (i : Nat) (b : Slot), ρ'[i]? = some (some b) → ∃ s, (Tr.restore ρ ρ')[i]? = some (some s) := fun i b h => by
    rw [restore_get _ _ hl, h]
    cases e1 : ρ[i]? with
    | none => exact ⟨b, rfl⟩
    | some x => cases x <;> exact ⟨_, rfl⟩
  have st : Sta W (Tr.restore ρ ρ') σ H' F G As' := by
    refine ⟨by rw [restore_len]; exact p.st.len, fun i s h => ?_, fun i s h l a ha => ?_, fun i s h l a ha => ?_, fun i h => ?_, p.st.nd, p.st.dj, p.st.fo, S.fg, fun a o e => p.st.gh a o (p.gg a o e)⟩
    · obtain ⟨x, y, e1, e2, rfl⟩ := get i s h
      exact p.st.slot i y e2
    · obtain ⟨x, y, e1, e2, rfl⟩ := get i s h
      obtain ⟨e3, e4⟩ := p.lk i x e1 l
      rw [e4] at ha
      obtain ⟨o, eo, _⟩ := S.own ha
      have g1 := (S.lock i x e1 l a ha).trans eo
      rw [g1]
      exact (p.st.gh a o (p.gg a o g1)).symm
    · obtain ⟨x, y, e1, e2, rfl⟩ := get i s h
      rcases p.an i a ha with ⟨j, z⟩ | z
      · obtain ⟨sj, ej⟩ := S.has z
        cases lj : sj.lk with
        | false => exact S.free j sj ej lj a z
        | true =>
          obtain ⟨e3, e4⟩ := p.lk j sj ej lj
          have ij := p.st.dj i j a ha (e4 ▸ z)
          subst ij
          rw [e1] at ej
          cases ej
          simp only at l
          rw [l] at lj
          cases lj
      · cases q : G a with
        | none => rfl
        | some o =>
          rw [S.gh a o q] at z
          cases z
    · refine p.st.none i fun s z => ?_
      obtain ⟨t, q⟩ := put i s z
      exact h t q
  refine ⟨st, p.keep, p.dom, Same.refl _, fun _ e n => absurd e n, p.an, fun a h => ?_, fun i s e l => ?_, fun i e => ?_⟩
  · obtain ⟨i, s, h1, h2, h3⟩ := h
    obtain ⟨x, y, e1, e2, rfl⟩ := get i s h1
    rcases p.an i a h3 with ⟨j, z⟩ | z
    · obtain ⟨sj, ej⟩ := S.has z
      cases lj : sj.lk with
      | false => exact .inl ⟨j, sj, ej, lj, z⟩
      | true =>
        obtain ⟨e3, e4⟩ := p.lk j sj ej lj
        have ij := p.st.dj i j a h3 (e4 ▸ z)
        subst ij
        rw [e1] at ej
        cases ej
        simp only at h2
        rw [h2] at lj
        cases lj
    · exact .inr z
  · obtain ⟨e2, e3⟩ := p.lk i s e l
    refine ⟨?_, e3⟩
    rw [restore_get _ _ hl, e, e2]
    rfl
  · have e2 := p.nw i e
    rw [restore_get _ _ hl, e, e2]
    rfl
theorem restore_nolk (S : Sta W ρ σ H F G As) (n : NoLk ρ) (p : Post W ρ σ H F G As ρ' H' G' As') : NoLk (Tr.restore ρ ρ') := by
  intro i s e
  rw [restore_get _ _ (S.len.trans p.st.len.symm)] at e
  cases e1 : ρ[i]? with
  | none =>
    have q : ρ'[i]? = none := List.getElem?_eq_none (by rw [← S.len.trans p.st.len.symm]; simpa using e1)
    rw [e1, q] at e
    cases e
  | some x =>
    cases x with
    | none =>
      rw [e1, p.nw i e1] at e
      cases e
    | some a =>
      cases e2 : ρ'[i]? with
      | none => rw [e1, e2] at e; cases e
      | some y =>
        rw [e1, e2] at e
        cases y with
        | none => cases e
        | some b =>
          cases e
          exact n i a e1
theorem sim_seal {t : TE} {f : SE} (h : SimE W t f) : SimE W t (sealE f) := by
  intro ρ σ H F G As r ρ' Q S e k
  unfold sealE at e
  split at e
  · rename_i r1 ρ1 e1
    split at e
    · rename_i hm
      cases e
      refine h ρ σ H F G As _ _ Q S e1 fun v H' G' As' B p rep tmp org => ?_
      exact k v H' G As' B (p.restore S) (rep.anyG hm) (tmp.back p.gg) org
    · cases e
      exact h ρ σ H F G As _ _ Q S e1 k
  · cases e
theorem sim_nil : SimA W tNil sNil := by
  intro ρ σ H F G As rs ρ' Q S e k
  cases e
  exact k [] H G As [] (Post.refl S) .nil tmp_nil fun _ z => nomatch z
theorem sim_cons {te : TE} {ta : TA} {f : SE} {g : SA} (hf : SimE W te f) (hg : SimA W ta g) : SimA W (tCons te ta) (sCons f g) := by
  intro ρ σ H F G As rs ρ' Q S e k
  unfold sCons at e
  split at e
  case h_2 => cases e
  rename_i r ρ1 e1
  split at e
  case h_2 => cases e
  rename_i rs2 ρ2 e2
  cases e
  refine hf ρ σ H F G As _ _ _ S e1 fun v H1 G1 As1 B1 p1 rep1 t1 o1 => ?_
  refine hg _ σ H1 F G1 As1 _ _ _ p1.st e2 fun vs H2 G2 As2 B2 p2 rep2 t2 o2 => ?_
  obtain ⟨t1', k1⟩ := p2.tmp p1.st t1
  refine k (v :: vs) H2 G2 As2 (B1 ++ B2) (p1.trans S p2) (.cons (rep1.mono (p2.tups p1.st) p2.gg k1) rep2) ⟨List.nodup_append.mpr ⟨t1.nd, t2.nd, fun a ha b hb z => ?_⟩, fun b hb => ?_, fun b hb => ?_, fun b hb => ?_⟩ fun b hb => ?_
  · subst z
    rcases o2 a hb with y | ⟨i, y⟩
    · exact t1.h a ha y
    · exact t1.a a ha i y
  · exact (List.mem_append.mp hb).elim (t1'.g b) (t2.g b)
  · exact (List.mem_append.mp hb).elim (t1'.h b) (t2.h b)
  · exact (List.mem_append.mp hb).elim (t1'.a b) (t2.a b)
  · rcases List.mem_append.mp hb with z | z
    · exact o1 b z
    · rcases o2 b z with y | ⟨i, y⟩
      · exact .inl (p1.dom b y)
      · rcases p1.an i b y with y | y
        · exact .inr y
        · exact .inl y
/-- a rule over values, behind its arguments -/
theorem VPost.post {B C : List Addr} {ρ1 : Env} {H1 G1 : Hp} {As1 : Nat → List Addr} {r : Val} {v : V} (q : VPost W H1 G1 B r v H' G' C) (p : Post W ρ σ H F G As ρ1 H1 G1 As1) (S : Sta W ρ σ H F G As) (t : Tmp W σ H1 G1 As1 B) (org : ∀ b ∈ B, H b = none ∨ ∃ i, b ∈ As i) :
    Post W ρ σ H F G As ρ1 H' G' As1 ∧ Tmp W σ H' G' As1 C ∧ ∀ c ∈ C, H c = none ∨ ∃ i, c ∈ As i := by
  have T : ∀ a vs, SqT W.K H1 a vs → SqT W.K H' a vs := p.st.tup fun a o e _ => q.keep a o e
  have gN : ∀ i a, a ∈ As1 i → G1 a = none → G' a = none := fun i a h e => by
    cases z : G' a with
    | none => rfl
    | some o =>
      rcases q.gn a e (by rw [z]; exact fun y => nomatch y) with y | y
      · obtain ⟨o, eo, _⟩ := p.st.own h
        rw [eo] at y
        cases y
      · exact absurd h (t.a a y i)
  have st : Sta W ρ1 σ H' F G' As1 := by
    refine ⟨p.st.len, fun i s h => ?_, fun i s h l a ha => ?_, fun i s h l a ha => gN i a ha (p.st.free i s h l a ha), p.st.none, p.st.nd, p.st.dj, p.st.fo, fun a o e => q.gg a o (p.st.fg a o e), q.gh⟩
    · obtain ⟨v, e, rep⟩ := p.st.slot i s h
      exact ⟨v, e, rep.mono T (Same.refl _) fun a _ o e => q.keep a o e⟩
    · obtain ⟨o, eo, _⟩ := p.st.own ha
      rw [q.keep a o eo]
      exact q.gg a o ((p.st.lock i s h l a ha).trans eo)
  have cH : ∀ c ∈ C, H c = none ∨ ∃ i, c ∈ As i := fun c hc => by
    rcases q.cn c hc with y | y
    · exact .inl (p.dom c y)
    · exact org c y
  refine ⟨⟨st, fun a o e n => q.keep a o (p.keep a o e n), fun a e => ?_, fun a o e => q.gg a o (p.gg a o e), fun a e n => ?_, p.an, p.ul, p.lk, p.nw⟩, ⟨q.nd, q.cg, fun c hc => ?_, fun c hc i z => ?_⟩, cH⟩
  · refine p.dom a ?_
    cases z : H1 a with
    | none => rfl
    | some o =>
      rw [q.keep a o z] at e
      cases e
  · cases z : G1 a with
    | some o => exact p.gn a e (by rw [z]; exact fun y => nomatch y)
    | none =>
      rcases q.gn a z n with y | y
      · exact .inl (p.dom a y)
      · exact org a y
  · obtain ⟨o, eo, _⟩ := q.rep.own c hc
    rw [eo]
    exact fun y => nomatch y
  · rcases q.cn c hc with y | y
    · obtain ⟨o, eo, _⟩ := p.st.own z
      rw [eo] at y
      cases y
    · exact t.a c y i z
theorem sim_app {ta : TA} {fs : SA} {rr : RV} {g : List Val → Option Val} (ha : SimA W ta fs) (hg : VOp W rr g) : SimE W (tCB rr ta) (sApp g fs) := by
  refine sim_seal ?_
  intro ρ σ H F G As r ρ' Q S e k
  simp only at e
  split at e
  case h_2 => cases e
  rename_i rs ρ1 e1
  split at e
  case h_2 => cases e
  rename_i r2 e2
  cases e
  refine ha ρ σ H F G As _ _ _ S e1 fun vs H1 G1 As1 B p rep t org => ?_
  refine hg H1 G1 _ vs B _ Q p.st.gh rep t.nd t.g e2 fun v H2 G2 C q => ?_
  obtain ⟨p2, t2, o2⟩ := q.post p S t org
  exact k v H2 G2 As1 C p2 q.rep t2 o2
def rr2 (r : R2) : RV := fun vs H Q => match vs with
  | [x, y] => r x y H Q
  | _ => False
def rr1 (r : V → Hp → VK → Prop) : RV := fun vs H Q => match vs with
  | [x] => r x H Q
  | _ => False
theorem sim_app2 {ta tb : TE} {f h : SE} {r : R2} {g : List Val → Option Val} (ha : SimE W ta f) (hb : SimE W tb h) (hg : VOp W (rr2 r) g) : SimE W (tOp r ta tb) (sApp2 g f h) :=
  sim_app (sim_cons ha (sim_cons hb sim_nil)) hg
theorem sim_app1 {ta : TE} {f : SE} {r : V → Hp → VK → Prop} {g : List Val → Option Val} (ha : SimE W ta f) (hg : VOp W (rr1 r) g) : SimE W (tUn r ta) (sApp1 g f) :=
  sim_app (sim_cons ha sim_nil) hg
theorem sim_test {t : TE} {f : SE} (h : SimE W t f) : SimT W (tTest t) (sTest f) := by
  intro ρ σ H F G As b ρ' Q S e k
  unfold sTest at e
  split at e
  case h_2 => cases e
  rename_i m b1 ρ1 e1
  cases e
  refine h ρ σ H F G As _ _ _ S e1 fun v H' G' As' B p rep t o => ?_
  cases rep
  exact ⟨b, rfl, k H' As' (p.restore S) fun n => restore_nolk S n p⟩
theorem sim_not {t : TT} {f : SB} (h : SimT W t f) : SimT W (tNot t) (sNot f) := by
  intro ρ σ H F G As b ρ' Q S e k
  unfold sNot at e
  split at e
  case h_2 => cases e
  rename_i b1 ρ1 e1
  cases e
  exact h ρ σ H F G As _ _ _ S e1 fun H' As' p l => k H' As' p l
theorem sim_and {t u : TT} {f g : SB} (h : SimT W t f) (h2 : SimT W u g) : SimT W (tAnd t u) (sAnd f g) := by
  intro ρ σ H F G As b ρ' Q S e k
  unfold sAnd at e
  split at e
  · rename_i ρ1 e1
    refine h ρ σ H F G As _ _ _ S e1 fun H' As' p l => ?_
    exact iteT (h2 _ σ H' F G As' _ _ Q p.st e fun H2 As2 p2 l2 => k H2 As2 (p.trans S p2) fun n => l2 (l n))
  · rename_i ρ1 e1
    cases e
    exact h ρ σ H F G As _ _ _ S e1 fun H' As' p l => iteF (k H' As' p l)
  · cases e
theorem sim_or {t u : TT} {f g : SB} (h : SimT W t f) (h2 : SimT W u g) : SimT W (tOr t u) (sOr f g) := by
  intro ρ σ H F G As b ρ' Q S e k
  unfold sOr at e
  split at e
  · rename_i ρ1 e1
    cases e
    exact h ρ σ H F G As _ _ _ S e1 fun H' As' p l => iteT (k H' As' p l)
  · rename_i ρ1 e1
    refine h ρ σ H F G As _ _ _ S e1 fun H' As' p l => ?_
    exact iteF (h2 _ σ H' F G As' _ _ Q p.st e fun H2 As2 p2 l2 => k H2 As2 (p.trans S p2) fun n => l2 (l n))
  · cases e
end
end Tr
namespace Tr
open PySem L2
/-- what a statement may have changed; B: what was at hand -/
structure Step (W : Wd) (B : List Addr) (ρ : Env) (σ : L2.St) (H F : Hp) (As : Nat → List Addr) (ρ' : Env) (σ' : L2.St) (H' F' : Hp) (As' : Nat → List Addr) : Prop where
  st : Sta W ρ' σ' H' F' F' As'
  nl : NoLk ρ'
  keep : ∀ a o, H a = some o → (∀ i, a ∉ As i) → a ∉ B → H' a = some o
  dom : ∀ a, H' a = none → H a = none
  ff : Same F F'
  fn : ∀ a, F a = none → F' a ≠ none → H a = none ∨ (∃ i, a ∈ As i) ∨ a ∈ B
  an : ∀ i a, a ∈ As' i → H a = none ∨ (∃ j, a ∈ As j) ∨ a ∈ B
  tp : ∀ a vs, SqT W.K H a vs → SqT W.K H' a vs
  ln : σ'.length = σ.length
  pn : ∀ i : Nat, W.pin i = true → σ'[i]? = σ[i]?
/-- what is handed back -/
structure Ret (W : Wd) (ρ : Env) (σ : L2.St) (H F : Hp) (As : Nat → List Addr) (r : Val) (ρ' : Env) (v : V) (σ' : L2.St) (H' F' G' : Hp) (As' : Nat → List Addr) (B : List Addr) : Prop where
  st : Sta W ρ' σ' H' F' G' As'
  keep : ∀ a o, H a = some o → (∀ i, a ∉ As i) → H' a = some o
  dom : ∀ a, H' a = none → H a = none
  fg : Same F G'
  gn : ∀ a, F a = none → G' a ≠ none → H a = none ∨ ∃ i, a ∈ As i
  an : ∀ i a, a ∈ As' i → H a = none ∨ ∃ j, a ∈ As j
  rep : Rep W H' G' r.m r.d v B
  tmp : Tmp W σ' H' G' As' B
  org : ∀ b ∈ B, H b = none ∨ ∃ i, b ∈ As i
  pn : ∀ i : Nat, W.pin i = true → σ'[i]? = σ[i]?
def Fin (W : Wd) (ρ : Env) (σ : L2.St) (H F : Hp) (As : Nat → List Addr) (D : Ends) : Out → Prop
  | .nx ρ' => ∀ σ' H' F' As', Step W [] ρ σ H F As ρ' σ' H' F' As' → D.nx σ' H'
  | .bk ρ' => ∀ σ' H' F' As', Step W [] ρ σ H F As ρ' σ' H' F' As' → D.bk σ' H'
  | .ct ρ' => ∀ σ' H' F' As', Step W [] ρ σ H F As ρ' σ' H' F' As' → D.ct σ' H'
  | .rt r ρ' => ∀ v σ' H' F' G' As' B, Ret W ρ σ H F As r ρ' v σ' H' F' G' As' B → D.rt v H'
def SimS (W : Wd) (t : TS) (f : SS) : Prop :=
  ∀ (ρ : Env) (σ : L2.St) (H F : Hp) (As : Nat → List Addr) (D : Ends) (out : Out), Sta W ρ σ H F F As → NoLk ρ → f ρ = some out → Fin W ρ σ H F As D out → t D σ H
/-- vs: the slots that may be filled -/
def SimG (W : Wd) (vs : List Nat) (g : TG) (f : STg) : Prop :=
  ∀ (ρ : Env) (σ : L2.St) (H F : Hp) (As : Nat → List Addr) (r : Val) (v : V) (B : List Addr) (ρ' : Env) (Q : L2.St → Hp → Prop), Sta W ρ σ H F F As → NoLk ρ → Rep W H F r.m r.d v B → Tmp W σ H F As B → f r ρ = some ρ' →
    (∀ σ' H' F' As', Step W B ρ σ H F As ρ' σ' H' F' As' → (∀ j, j ∉ vs → σ'[j]? = σ[j]?) → Q σ' H') → g v σ H Q
def SimGs (W : Wd) (ws : List Nat) (g : TGs) (f : List D → Mode → Env → Option Env) : Prop :=
  ∀ (ρ : Env) (σ : L2.St) (H F : Hp) (As : Nat → List Addr) (ds : List D) (m : Mode) (vs : List V) (B : List Addr) (ρ' : Env) (Q : L2.St → Hp → Prop), Sta W ρ σ H F F As → NoLk ρ → Reps W H F m ds vs B → Tmp W σ H F As B → f ds m ρ = some ρ' →
    (∀ σ' H' F' As', Step W B ρ σ H F As ρ' σ' H' F' As' → (∀ j, j ∉ ws → σ'[j]? = σ[j]?) → Q σ' H') → g vs σ H Q
section
variable {W : Wd} {ρ ρ' ρ1 ρ2 : Env} {σ σ' σ1 σ2 : L2.St} {H F G H' F' G' H1 F1 G1 H2 F2 : Hp} {As As' As1 As2 : Nat → List Addr} {B : List Addr}
theorem Step.refl (S : Sta W ρ σ H F F As) (n : NoLk ρ) : Step W B ρ σ H F As ρ σ H F As :=
  ⟨S, n, fun _ _ e _ _ => e, fun _ e => e, Same.refl _, fun _ e q => absurd e q, fun i _ h => .inr (.inl ⟨i, h⟩), fun _ _ h => h, rfl, fun _ _ => rfl⟩
theorem Step.trans (p : Step W [] ρ σ H F As ρ1 σ1 H1 F1 As1) (q : Step W B ρ1 σ1 H1 F1 As1 ρ2 σ2 H2 F2 As2) (org : ∀ b ∈ B, H b = none ∨ ∃ i, b ∈ As i) : Step W [] ρ σ H F As ρ2 σ2 H2 F2 As2 where
  st := q.st
  nl := q.nl
  keep := fun a o e n _ => q.keep a o (p.keep a o e n (fun z => nomatch z)) (fun i h => by
    rcases p.an i a h with z | ⟨j, z⟩ | z
    · rw [e] at z; cases z
    · exact n j z
    · cases z) fun h => by
    rcases org a h with z | ⟨j, z⟩
    · rw [e] at z; cases z
    · exact n j z
  dom := fun a e => p.dom a (q.dom a e)
  ff := p.ff.trans q.ff
  fn := fun a e n => by
    cases z : F1 a with
    | some o => exact p.fn a e (by rw [z]; exact fun y => nomatch y)
    | none =>
      rcases q.fn a z n with y | ⟨i, y⟩ | y
      · exact .inl (p.dom a y)
      · exact p.an i a y
      · exact (org a y).elim .inl fun z => .inr (.inl z)
  an := fun i a h => by
    rcases q.an i a h with y | ⟨j, y⟩ | y
    · exact .inl (p.dom a y)
    · exact p.an j a y
    · exact (org a y).elim .inl fun z => .inr (.inl z)
  tp := fun a vs h => q.tp a vs (p.tp a vs h)
  ln := q.ln.trans p.ln
  pn := fun i h => (q.pn i h).trans (p.pn i h)
theorem freeze2_get : ∀ (ρ ρ' : Env), ρ.length = ρ'.length → ∀ i : Nat, (freeze2 ρ ρ')[i]? = (match ρ[i]?, ρ'[i]? with | some a, some b => some (frz2 a b) | _, b => b)
  | [], [], _, i => by simp [freeze2]
  | a :: ρ, b :: ρ', h, 0 => by simp [freeze2]
  | a :: ρ, b :: ρ', h, i + 1 => by
    have q := freeze2_get ρ ρ' (by simpa using h) i
    simpa [freeze2] using q
  | [], _ :: _, h, _ => by simp at h
  | _ :: _, [], h, _ => by simp at h
theorem freeze2_eq (S : Sta W ρ σ H F G As) (n : NoLk ρ) (p : Post W ρ σ H F G As ρ1 H1 G1 As1) : freeze2 ρ ρ1 = freeze ρ1 := by
  have hl : ρ.length = ρ1.length := S.len.trans p.st.len.symm
  apply List.ext_getElem?
  intro i
  rw [freeze2_get _ _ hl]
  unfold freeze
  rw [List.getElem?_map]
  cases e1 : ρ[i]? with
  | none =>
    have q : ρ1[i]? = none := List.getElem?_eq_none (by rw [← hl]; simpa using e1)
    rw [q]
    rfl
  | some x =>
    cases e2 : ρ1[i]? with
    | none => rfl
    | some y =>
      cases x with
      | none =>
        rw [p.nw i e1] at e2
        cases e2
        rfl
      | some a =>
        cases y with
        | none => rfl
        | some b =>
          have la := n i a e1
          simp only [frz2, frz1, la, Option.map_some]
          cases b.lk <;> simp
theorem settleF_ok (S : Sta W ρ σ H F F As) (n : NoLk ρ) (p : Post W ρ σ H F F As ρ1 H1 G1 As1) :
    ∃ As', Step W [] ρ σ H F As (freeze ρ1) σ H1 G1 As' ∧ ∀ i a, a ∈ As' i → a ∈ As1 i := by
  have kp : ∀ a o, H a = some o → (∀ i, a ∉ As i) → a ∉ ([] : List Addr) → H1 a = some o := fun a o e q _ => p.keep a o e fun ⟨i, s, _, _, z⟩ => q i z
  have get : ∀ (i : Nat) (s : Slot), (freeze ρ1)[i]? = some (some s) → ∃ b, ρ1[i]? = some (some b) ∧ ((b.lk = true ∧ s = ⟨.F, false, b.d⟩) ∨ (b.lk = false ∧ s = b)) := fun i s e => by
    unfold freeze at e
    rw [List.getElem?_map] at e
    cases e1 : ρ1[i]? with
    | none => rw [e1] at e; cases e
    | some x =>
      rw [e1] at e
      cases x with
      | none => cases e
      | some b =>
        refine ⟨b, rfl, ?_⟩
        cases hb : b.lk with
        | true =>
          simp [frz1, hb] at e
          exact .inl ⟨rfl, e.symm⟩
        | false =>
          simp [frz1, hb] at e
          exact .inr ⟨rfl, e.symm⟩
  have put : ∀ (i : Nat) (b : Slot), ρ1[i]? = some (some b) → ∃ s, (freeze ρ1)[i]? = some (some s) := fun i b e => by
    unfold freeze
    rw [List.getElem?_map, e]
    cases hb : b.lk <;> simp [frz1, hb]
  let lkd : Nat → Bool := fun i => match ρ1[i]? with
    | some (some s) => s.lk
    | _ => false
  let As2 : Nat → List Addr := fun i => if lkd i then [] else As1 i
  have sub : ∀ i a, a ∈ As2 i → a ∈ As1 i ∧ lkd i = false := fun i a h => by
    by_cases q : lkd i = true
    · have e : As2 i = [] := if_pos q
      rw [e] at h; cases h
    · have e : As2 i = As1 i := if_neg q
      rw [e] at h
      exact ⟨h, by simpa using q⟩
  have lkdOf : ∀ (i : Nat) (b : Slot), ρ1[i]? = some (some b) → lkd i = b.lk := fun i b e => by
    show (match ρ1[i]? with | some (some s) => s.lk | _ => false) = b.lk
    rw [e]
  have st : Sta W (freeze ρ1) σ H1 G1 G1 As2 := by
    refine ⟨by unfold freeze; rw [List.length_map]; exact p.st.len, fun i s e => ?_, fun i s e l => ?_, fun i s e l a ha => ?_, fun i h => ?_, fun i => ?_, fun i j a h1 h2 => p.st.dj i j a (sub i a h1).1 (sub j a h2).1, fun i a h => ?_, Same.refl _, p.st.gh⟩
    · obtain ⟨b, e1, q⟩ := get i s e
      obtain ⟨v, hv, rb⟩ := p.st.slot i b e1
      refine ⟨v, hv, ?_⟩
      rcases q with ⟨hl, rfl⟩ | ⟨hl, rfl⟩
      · have ea : As2 i = [] := if_pos ((lkdOf i b e1).trans hl)
        rw [ea]
        exact rb.froze p.st.fg (p.st.lock i b e1 hl)
      · have ea : As2 i = As1 i := if_neg (by rw [lkdOf i _ e1, hl]; exact Bool.false_ne_true)
        rw [ea]
        exact rb.mono (fun _ _ z => z) p.st.fg fun _ _ _ z => z
    · obtain ⟨b, e1, q⟩ := get i s e
      rcases q with ⟨hl, rfl⟩ | ⟨hl, rfl⟩
      · cases l
      · rw [hl] at l; cases l
    · obtain ⟨b, e1, q⟩ := get i s e
      obtain ⟨m1, m2⟩ := sub i a ha
      exact p.st.free i b e1 ((lkdOf i b e1).symm.trans m2) a m1
    · have z := p.st.none i fun s z => by
        obtain ⟨t, q⟩ := put i s z
        exact h t q
      show (if lkd i then [] else As1 i) = []
      rw [z]
      simp
    · show (if lkd i then [] else As1 i).Nodup
      split
      · exact List.nodup_nil
      · exact p.st.nd i
    · obtain ⟨m1, m2⟩ := sub i a h
      obtain ⟨b, e1⟩ := p.st.has m1
      exact p.st.free i b e1 ((lkdOf i b e1).symm.trans m2) a m1
  refine ⟨As2, ⟨st, fun i s e => ?_, kp, p.dom, p.gg, fun a e q => (p.gn a e q).elim .inl fun z => .inr (.inl z), fun i a h => (p.an i a (sub i a h).1).elim (fun z => .inr (.inl z)) .inl, p.tups S, rfl, fun _ _ => rfl⟩, fun i a h => (sub i a h).1⟩
  obtain ⟨b, e1, q⟩ := get i s e
  rcases q with ⟨hl, rfl⟩ | ⟨hl, rfl⟩
  · rfl
  · exact hl
/-- the end of a statement that is one expression -/
theorem settle_ok {r : Val} {v : V} (S : Sta W ρ σ H F F As) (n : NoLk ρ) (p : Post W ρ σ H F F As ρ1 H1 G1 As1) (rep : Rep W H1 G1 r.m r.d v B) (t : Tmp W σ H1 G1 As1 B) (org : ∀ b ∈ B, H b = none ∨ ∃ i, b ∈ As i) :
    ∃ F' As', Step W [] ρ σ H F As (settle ρ r ρ1) σ H1 F' As' ∧ Rep W H1 F' r.m r.d v B ∧ Tmp W σ H1 F' As' B := by
  have kp : ∀ a o, H a = some o → (∀ i, a ∉ As i) → a ∉ ([] : List Addr) → H1 a = some o := fun a o e q _ => p.keep a o e fun ⟨i, s, _, _, z⟩ => q i z
  unfold settle
  split
  · rename_i hm
    have p2 := p.restore S
    exact ⟨F, As1, ⟨p2.st, restore_nolk S n p, kp, p.dom, Same.refl _, fun _ e q => absurd e q, fun i a h => (p.an i a h).elim (fun z => .inr (.inl z)) .inl, p.tups S, rfl, fun _ _ => rfl⟩, rep.anyG hm, t.back p.gg⟩
  · rw [freeze2_eq S n p]
    obtain ⟨As2, q, sub⟩ := settleF_ok S n p
    exact ⟨G1, As2, q, rep, ⟨t.nd, t.g, t.h, fun b hb i z => t.a b hb i (sub i b z)⟩⟩
/-- a slot is filled -/
theorem put_ok {r : Val} {v : V} {i : Nat} (hp : W.pin i = false) (S : Sta W ρ σ H F F As) (n : NoLk ρ) (rep : Rep W H F r.m r.d v B) (t : Tmp W σ H F As B) (e : setSlot ρ i r = some ρ') :
    Step W B ρ σ H F As ρ' (σ.set i (some v)) H F (fun j => if j = i then B else As j) := by
  have e2 : i < ρ.length ∧ ρ' = ρ.set i (some ⟨r.m, false, r.d⟩) := by
    unfold setSlot at e
    split at e
    · rename_i hs
      cases e
      exact ⟨hs, rfl⟩
    · cases e
  obtain ⟨hi, rfl⟩ := e2
  have get : ∀ (j : Nat) (s : Slot), (ρ.set i (some ⟨r.m, false, r.d⟩))[j]? = some (some s) → (j = i ∧ s = ⟨r.m, false, r.d⟩) ∨ (j ≠ i ∧ ρ[j]? = some (some s)) := fun j s h => by
    rw [get_set] at h
    split at h
    · rename_i q
      cases h
      exact .inl ⟨q.1, rfl⟩
    · rename_i q
      by_cases z : j = i
      · exact absurd ⟨z, hi⟩ q
      · exact .inr ⟨z, h⟩
  have sub : ∀ j a, a ∈ (fun j => if j = i then B else As j) j → (j = i ∧ a ∈ B) ∨ (j ≠ i ∧ a ∈ As j) := fun j a h => by
    by_cases q : j = i
    · simp only [if_pos q] at h; exact .inl ⟨q, h⟩
    · simp only [if_neg q] at h; exact .inr ⟨q, h⟩
  have nl : NoLk (ρ.set i (some ⟨r.m, false, r.d⟩)) := fun j s h => by
    rcases get j s h with ⟨_, rfl⟩ | ⟨_, e⟩
    · rfl
    · exact n j s e
  have st : Sta W (ρ.set i (some ⟨r.m, false, r.d⟩)) (σ.set i (some v)) H F F (fun j => if j = i then B else As j) := by
    refine ⟨by rw [List.length_set, List.length_set]; exact S.len, fun j s h => ?_, fun j s h l => ?_, fun j s h l a ha => ?_, fun j h => ?_, fun j => ?_, fun j1 j2 a h1 h2 => ?_, fun j a h => ?_, S.fg, S.gh⟩
    · rcases get j s h with ⟨rfl, rfl⟩ | ⟨q, e⟩
      · refine ⟨v, by rw [List.getElem?_set_self (S.len ▸ hi)], ?_⟩
        simp only [if_pos]
        exact rep
      · obtain ⟨u, hu, ru⟩ := S.slot j s e
        refine ⟨u, by rw [List.getElem?_set_ne (Ne.symm q)]; exact hu, ?_⟩
        simp only [if_neg q]
        exact ru
    · rw [nl j s h] at l
      cases l
    · rcases sub j a ha with ⟨rfl, q⟩ | ⟨_, q⟩
      · exact t.g a q
      · exact S.fo j a q
    · have q : j ≠ i := fun z => h ⟨r.m, false, r.d⟩ (by rw [z, List.getElem?_set_self hi])
      simp only [if_neg q]
      exact S.none j fun s z => h s (by rw [List.getElem?_set_ne (Ne.symm q)]; exact z)
    · by_cases q : j = i
      · simp only [if_pos q]; exact t.nd
      · simp only [if_neg q]; exact S.nd j
    · rcases sub j1 a h1 with ⟨e1, q1⟩ | ⟨e1, q1⟩ <;> rcases sub j2 a h2 with ⟨e2, q2⟩ | ⟨e2, q2⟩
      · exact e1.trans e2.symm
      · exact absurd q2 (t.a a q1 j2)
      · exact absurd q1 (t.a a q2 j1)
      · exact S.dj _ _ _ q1 q2
    · rcases sub j a h with ⟨_, q⟩ | ⟨_, q⟩
      · exact t.g a q
      · exact S.fo j a q
  refine ⟨st, nl, fun _ _ e _ _ => e, fun _ e => e, Same.refl _, fun _ e q => absurd e q, fun j a h => ?_, fun _ _ h => h, List.length_set, fun j hj => by
    rw [List.getElem?_set_ne]
    rintro rfl
    rw [hp] at hj
    cases hj⟩
  rcases sub j a h with ⟨_, q⟩ | ⟨_, q⟩
  · exact .inr (.inr q)
  · exact .inr (.inl ⟨j, q⟩)
theorem sim_gname (i : Nat) {ws : List Nat} (hi : i ∈ ws) (hp : W.pin i = false) : SimG W ws (gName i) (sGName i) := by
  intro ρ σ H F As r v B ρ' Q S n rep t e k
  exact k _ _ _ _ (put_ok hp S n rep t e) fun j hj => List.getElem?_set_ne (fun (z : i = j) => hj (z ▸ hi))
theorem sim_gnil {ws : List Nat} : SimGs W ws gNil sGNil := by
  intro ρ σ H F As ds m vs B ρ' Q S n rep t e k
  cases ds with
  | nil =>
    cases rep
    cases e
    exact ⟨rfl, k _ _ _ _ (Step.refl S n) fun _ _ => rfl⟩
  | cons d ds => cases e
theorem sim_gcons {g : TG} {gs : TGs} {f : STg} {fs : List D → Mode → Env → Option Env} {ws : List Nat} (hg : SimG W ws g f) (hgs : SimGs W ws gs fs) : SimGs W ws (gCons g gs) (sGCons f fs) := by
  intro ρ σ H F As ds m vs B ρ' Q S n rep t e k
  cases rep with
  | nil => cases e
  | @cons _ d ds v vs A B r1 r2 =>
    simp only [sGCons] at e
    split at e
    case h_2 => cases e
    rename_i ρ1 e1
    have nd := List.nodup_append.mp t.nd
    have tA : Tmp W σ H F As A := ⟨nd.1, fun b hb => t.g b (List.mem_append_left _ hb), fun b hb => t.h b (List.mem_append_left _ hb), fun b hb => t.a b (List.mem_append_left _ hb)⟩
    refine ⟨v, vs, rfl, hg _ σ H F As _ v A _ _ S n r1.nrm tA e1 fun σ1 H1 F1 As1 p w1 => ?_⟩
    have kB : ∀ b ∈ B, ∀ o, H b = some o → H1 b = some o := fun b hb o eo => p.keep b o eo (fun i => t.a b (List.mem_append_right _ hb) i) fun z => nd.2.2 b z b hb rfl
    have tB : Tmp W σ1 H1 F1 As1 B := by
      refine ⟨nd.2.1, fun b hb => ?_, fun b hb e => t.h b (List.mem_append_right _ hb) (p.dom b e), fun b hb i z => ?_⟩
      · cases q : F1 b with
        | none => rfl
        | some o =>
          rcases p.fn b (t.g b (List.mem_append_right _ hb)) (by rw [q]; exact fun y => nomatch y) with y | ⟨i, y⟩ | y
          · exact absurd y (t.h b (List.mem_append_right _ hb))
          · exact absurd y (t.a b (List.mem_append_right _ hb) i)
          · exact absurd rfl (nd.2.2 b y b hb)
      · rcases p.an i b z with y | ⟨j, y⟩ | y
        · exact t.h b (List.mem_append_right _ hb) y
        · exact t.a b (List.mem_append_right _ hb) j y
        · exact nd.2.2 b y b hb rfl
    refine hgs _ σ1 H1 F1 As1 ds m vs B _ Q p.st p.nl (r2.mono p.tp p.ff kB) tB e fun σ2 H2 F2 As2 q w2 => k σ2 H2 F2 As2 ?_ fun j hj => (w2 j hj).trans (w1 j hj)
    refine ⟨q.st, q.nl, fun a o e z zB => q.keep a o (p.keep a o e z fun y => zB (List.mem_append_left _ y)) (fun i h => ?_) fun y => zB (List.mem_append_right _ y), fun a e => p.dom a (q.dom a e), p.ff.trans q.ff, fun a e z => ?_, fun i a h => ?_, fun a vs h => q.tp a vs (p.tp a vs h), q.ln.trans p.ln, fun i h => (q.pn i h).trans (p.pn i h)⟩
    · rcases p.an i a h with y | ⟨j, y⟩ | y
      · rw [e] at y; cases y
      · exact z j y
      · exact zB (List.mem_append_left _ y)
    · cases y : F1 a with
      | some o =>
        rcases p.fn a e (by rw [y]; exact fun q => nomatch q) with y | y | y
        · exact .inl y
        · exact .inr (.inl y)
        · exact .inr (.inr (List.mem_append_left _ y))
      | none =>
        rcases q.fn a y z with y | ⟨i, y⟩ | y
        · exact .inl (p.dom a y)
        · rcases p.an i a y with y | y | y
          · exact .inl y
          · exact .inr (.inl y)
          · exact .inr (.inr (List.mem_append_left _ y))
        · exact .inr (.inr (List.mem_append_right _ y))
    · rcases q.an i a h with y | ⟨j, y⟩ | y
      · exact .inl (p.dom a y)
      · rcases p.an j a y with y | y | y
        · exact .inl y
        · exact .inr (.inl y)
        · exact .inr (.inr (List.mem_append_left _ y))
      · exact .inr (.inr (List.mem_append_right _ y))
theorem sim_gtup {gs : TGs} {fs : List D → Mode → Env → Option Env} {ws : List Nat} {n : Nat} (hgs : SimGs W ws gs fs) (hn : ∀ ds m ρ ρ', fs ds m ρ = some ρ' → ds.length = n) : SimG W ws (gTup W.K n gs) (sGTup fs) := by
  intro ρ σ H F As r v B ρ' Q S nl rep t e k
  unfold sGTup at e
  split at e
  case h_2 => cases e
  rename_i ds e1
  obtain ⟨m, d⟩ := r
  simp only at e1 e
  subst e1
  cases rep with
  | @tup _ a vs _ _ hs rs => exact ⟨a, vs, rfl, hs, by rw [← rs.len]; exact hn _ _ _ _ e, hgs _ σ H F As ds m vs B _ _ S nl rs t e k⟩
theorem gnil_len : ∀ ds m (ρ ρ' : Env), sGNil ds m ρ = some ρ' → ds.length = 0
  | [], _, _, _, _ => rfl
  | _ :: _, _, _, _, e => by cases e
theorem gcons_len {g : STg} {gs : List D → Mode → Env → Option Env} {n : Nat} (h : ∀ ds m ρ ρ', gs ds m ρ = some ρ' → ds.length = n) : ∀ ds m (ρ ρ' : Env), sGCons g gs ds m ρ = some ρ' → ds.length = n + 1
  | [], _, _, _, e => by cases e
  | d :: ds, m, ρ, ρ', e => by
    simp only [sGCons] at e
    split at e
    · rw [List.length_cons, h _ _ _ _ e]
    · cases e
end
end Tr
namespace Tr
open PySem L2
section
variable {W : Wd} {ρ ρ' ρ1 ρ2 : Env} {σ σ' σ1 σ2 : L2.St} {H F G H' F' G' H1 F1 G1 H2 F2 : Hp} {As As' As1 As2 : Nat → List Addr} {B : List Addr}
theorem sim_asg {te : TE} {g : TG} {f : SE} {h : STg} {ws : List Nat} (hf : SimE W te f) (hg : SimG W ws g h) : SimS W (tAsg te g) (sAsg h f) := by
  intro ρ σ H F As D out S n e k
  unfold sAsg at e
  split at e
  case h_2 => cases e
  rename_i r ρ1 e1
  split at e
  case h_2 => cases e
  rename_i ρ2 e2
  cases e
  refine hf ρ σ H F F As _ _ _ S e1 fun v H1 G1 As1 B p rep t org => ?_
  obtain ⟨F2, As2, q, rep2, t2⟩ := settle_ok S n p rep t org
  exact hg _ σ H1 F2 As2 _ v B _ _ q.st q.nl rep2 t2 e2 fun σ3 H3 F3 As3 q3 _ => k σ3 H3 F3 As3 (q.trans q3 org)
theorem sim_set {te : TE} {f : SE} {i : Nat} (hf : SimE W te f) (hp : W.pin i = false) : SimS W (tAsg te (gName i)) (sSet i f) := sim_asg hf (sim_gname (ws := [i]) i (by simp) hp)
theorem repL_anyG : ∀ {rs : List Val} {vs : List V} {B : List Addr}, RepL W H G rs vs B → allO rs = true → RepL W H G' rs vs B
  | _, _, _, .nil, _ => .nil
  | _, _, _, .cons h r, k => by
    rw [allO, Bool.and_eq_true] at k
    exact .cons (h.anyG (of_decide_eq_true k.1)) (repL_anyG r k.2)
theorem settleL_ok {rs : List Val} {vs : List V} (S : Sta W ρ σ H F F As) (n : NoLk ρ) (p : Post W ρ σ H F F As ρ1 H1 G1 As1) (rep : RepL W H1 G1 rs vs B) (t : Tmp W σ H1 G1 As1 B) (org : ∀ b ∈ B, H b = none ∨ ∃ i, b ∈ As i) :
    ∃ F' As', Step W [] ρ σ H F As (if allO rs then restore ρ ρ1 else freeze2 ρ ρ1) σ H1 F' As' ∧ RepL W H1 F' rs vs B ∧ Tmp W σ H1 F' As' B := by
  have e : ∀ m, settle ρ ⟨m, .non⟩ ρ1 = if m = .O then restore ρ ρ1 else freeze2 ρ ρ1 := fun _ => rfl
  by_cases hm : allO rs = true
  · rw [if_pos hm]
    obtain ⟨F2, As2, q, _, t2⟩ := settle_ok (r := ⟨.O, .non⟩) (v := .non) (B := []) S n p (.non _) tmp_nil fun _ z => nomatch z
    rw [e, if_pos rfl] at q
    refine ⟨F, As1, ?_, repL_anyG rep hm, t.back p.gg⟩
    have p2 := p.restore S
    exact ⟨p2.st, q.nl, fun a o e n _ => p.keep a o e fun ⟨i, s, _, _, z⟩ => n i z, p.dom, Same.refl _, fun _ e q => absurd e q, fun i a h => (p.an i a h).elim (fun z => .inr (.inl z)) .inl, p.tups S, rfl, fun _ _ => rfl⟩
  · rw [if_neg hm, freeze2_eq S n p]
    have q := settleF_ok S n p
    obtain ⟨As2, q, sub⟩ := q
    exact ⟨G1, As2, q, rep, ⟨t.nd, t.g, t.h, fun b hb i z => t.a b hb i (sub i b z)⟩⟩
theorem sim_par {ta : TA} {fs : SA} {i j : Nat} (hf : SimA W ta fs) (hpi : W.pin i = false) (hpj : W.pin j = false) : SimS W (tPar i j ta) (sPar i j fs) := by
  intro ρ σ H F As D out S n e k
  unfold sPar at e
  split at e
  case h_2 => cases e
  rename_i r r2 ρ1 e1
  split at e
  case h_2 => cases e
  rename_i ρ2 e2
  split at e
  case h_2 => cases e
  rename_i ρ3 e3
  cases e
  refine hf ρ σ H F F As _ _ _ S e1 fun vs H1 G1 As1 B p rep t org => ?_
  obtain ⟨F2, As2, q, rep2, t2⟩ := settleL_ok S n p rep t org
  cases rep2 with
  | @cons _ _ v _ A1 B1 ra rb =>
    cases rb with
    | @cons _ _ w _ A2 B2 rb rc =>
      cases rc
      refine ⟨v, w, rfl, ?_⟩
      rw [List.append_nil] at t2 org
      have nd := List.nodup_append.mp t2.nd
      have tA : Tmp W σ H1 F2 As2 A1 := ⟨nd.1, fun b hb => t2.g b (List.mem_append_left _ hb), fun b hb => t2.h b (List.mem_append_left _ hb), fun b hb => t2.a b (List.mem_append_left _ hb)⟩
      have s1 := put_ok hpi q.st q.nl ra tA e2
      have tB : Tmp W (σ.set i (some v)) H1 F2 (fun j => if j = i then A1 else As2 j) A2 := by
        refine ⟨nd.2.1, fun b hb => t2.g b (List.mem_append_right _ hb), fun b hb => t2.h b (List.mem_append_right _ hb), fun b hb l z => ?_⟩
        by_cases y : l = i
        · simp only [if_pos y] at z
          exact nd.2.2 b z b hb rfl
        · simp only [if_neg y] at z
          exact t2.a b (List.mem_append_right _ hb) l z
      have s2 := put_ok hpj s1.st s1.nl rb tB e3
      exact k _ _ _ _ ((q.trans s1 fun b hb => org b (List.mem_append_left _ hb)).trans s2 fun b hb => org b (List.mem_append_right _ hb))
theorem sim_ret {te : TE} {f : SE} (hf : SimE W te f) : SimS W (tRet te) (sRet f) := by
  intro ρ σ H F As D out S n e k
  unfold sRet at e
  split at e
  case h_2 => cases e
  rename_i r ρ1 e1
  cases e
  refine hf ρ σ H F F As _ _ _ S e1 fun v H1 G1 As1 B p rep t org => ?_
  exact k v σ H1 F G1 As1 B ⟨p.st, fun a o e n => p.keep a o e fun ⟨i, s, _, _, z⟩ => n i z, p.dom, p.gg, p.gn, fun i a h => (p.an i a h).elim .inr .inl, rep, t, org, fun _ _ => rfl⟩
theorem sim_skip : SimS W tNext sSkip := by
  intro ρ σ H F As D out S n e k
  cases e
  exact k σ H F As (Step.refl S n)
theorem Step.ret {r : Val} {v : V} {ρ3 : Env} {σ3 : L2.St} {H3 F3 G3 : Hp} {As3 : Nat → List Addr} (p : Step W [] ρ σ H F As ρ1 σ1 H1 F1 As1) (q : Ret W ρ1 σ1 H1 F1 As1 r ρ3 v σ3 H3 F3 G3 As3 B) : Ret W ρ σ H F As r ρ3 v σ3 H3 F3 G3 As3 B where
  st := q.st
  keep := fun a o e n => q.keep a o (p.keep a o e n (fun z => nomatch z)) fun i h => by
    rcases p.an i a h with z | ⟨j, z⟩ | z
    · rw [e] at z; cases z
    · exact n j z
    · cases z
  dom := fun a e => p.dom a (q.dom a e)
  fg := p.ff.trans q.fg
  gn := fun a e n => by
    cases z : F1 a with
    | some o =>
      rcases p.fn a e (by rw [z]; exact fun y => nomatch y) with y | y | y
      · exact .inl y
      · exact .inr y
      · cases y
    | none =>
      rcases q.gn a z n with y | ⟨i, y⟩
      · exact .inl (p.dom a y)
      · rcases p.an i a y with y | y | y
        · exact .inl y
        · exact .inr y
        · cases y
  an := fun i a h => by
    rcases q.an i a h with y | ⟨j, y⟩
    · exact .inl (p.dom a y)
    · rcases p.an j a y with y | y | y
      · exact .inl y
      · exact .inr y
      · cases y
  rep := q.rep
  tmp := q.tmp
  org := fun b hb => by
    rcases q.org b hb with y | ⟨j, y⟩
    · exact .inl (p.dom b y)
    · rcases p.an j b y with y | y | y
      · exact .inl y
      · exact .inr y
      · cases y
  pn := fun i h => (q.pn i h).trans (p.pn i h)
theorem Fin.trans {D : Ends} (p : Step W [] ρ σ H F As ρ1 σ1 H1 F1 As1) : ∀ {out : Out}, Fin W ρ σ H F As D out → Fin W ρ1 σ1 H1 F1 As1 D out
  | .nx ρ', k => fun σ' H' F' As' q => k σ' H' F' As' (p.trans q fun _ z => nomatch z)
  | .bk ρ', k => fun σ' H' F' As' q => k σ' H' F' As' (p.trans q fun _ z => nomatch z)
  | .ct ρ', k => fun σ' H' F' As' q => k σ' H' F' As' (p.trans q fun _ z => nomatch z)
  | .rt r ρ', k => fun v σ' H' F' G' As' B q => k v σ' H' F' G' As' B (p.ret q)
theorem sim_seq {t u : TS} {f g : SS} (hf : SimS W t f) (hg : SimS W u g) : SimS W (tSeq t u) (sSeq f g) := by
  intro ρ σ H F As D out S n e k
  unfold sSeq at e
  split at e
  · rename_i ρ1 e1
    refine hf ρ σ H F As _ _ S n e1 ?_
    intro σ1 H1 F1 As1 p
    exact hg _ σ1 H1 F1 As1 D out p.st p.nl e (k.trans p)
  · rename_i e1
    refine hf ρ σ H F As _ _ S n e ?_
    cases out with
    | nx ρ' => exact (e1 _ e).elim
    | bk ρ' => exact k
    | ct ρ' => exact k
    | rt r ρ' => exact k
/-- behind a test -/
theorem test_step {b : Bool} (S : Sta W ρ σ H F F As) (n : NoLk ρ) (p : Post W ρ σ H F F As ρ1 H1 F As1) (hl : NoLk ρ1) : Step W [] ρ σ H F As ρ1 σ H1 F As1 :=
  ⟨p.st, hl, fun a o e n _ => p.keep a o e fun ⟨i, s, _, _, z⟩ => n i z, p.dom, Same.refl _, fun _ e q => absurd e q, fun i a h => (p.an i a h).elim (fun z => .inr (.inl z)) .inl, p.tups S, rfl, fun _ _ => rfl⟩
theorem sim_if {c : TT} {t u : TS} {s : SB} {f g : SS} (hc : SimT W c s) (hf : SimS W t f) (hg : SimS W u g) : SimS W (tIfS c t u) (sIf s f g) := by
  intro ρ σ H F As D out S n e k
  unfold sIf at e
  split at e
  · rename_i ρ1 e1
    refine hc ρ σ H F F As _ _ _ S e1 fun H1 As1 p l => iteT ?_
    have q := test_step (b := true) S n p (l n)
    exact hf _ σ H1 F As1 D out p.st (l n) e (k.trans q)
  · rename_i ρ1 e1
    refine hc ρ σ H F F As _ _ _ S e1 fun H1 As1 p l => iteF ?_
    have q := test_step (b := true) S n p (l n)
    exact hg _ σ H1 F As1 D out p.st (l n) e (k.trans q)
  · cases e
theorem sim_while {c : TT} {t : TS} {s : SB} {f : SS} (hc : SimT W c s) (hf : SimS W t f) : SimS W (tWhile c t) (sWhile s f) := by
  intro ρ σ H F As D out S n e k
  obtain ⟨m0, e0⟩ := sWhile_iff.mp e
  refine ⟨fun m σ' H' => ∃ ρ' F' As', Step W [] ρ σ H F As ρ' σ' H' F' As' ∧ whileF s f m ρ' = some out, ⟨m0, ρ, F, As, Step.refl S n, e0⟩, ?_⟩
  rintro m σ' H' ⟨ρ', F', As', p, e1⟩
  cases m with
  | zero => cases e1
  | succ m =>
    rw [whileF] at e1
    cases e2 : s ρ' with
    | none => rw [e2] at e1; cases e1
    | some x =>
      obtain ⟨b, ρ1⟩ := x
      rw [e2] at e1
      refine hc ρ' σ' H' F' F' As' b ρ1 _ p.st e2 fun H1 As1 q l => ?_
      have q1 := p.trans (test_step (b := b) p.st p.nl q (l p.nl)) fun _ z => nomatch z
      cases b with
      | false =>
        cases e1
        exact iteF (k σ' H1 F' As1 q1)
      | true =>
        refine iteT ⟨fun σ2 H2 => ∃ ρ2 F2 As2, Step W [] ρ σ H F As ρ2 σ2 H2 F2 As2 ∧ whileF s f m ρ2 = some out, fun σ2 H2 z => ⟨m, Nat.lt_succ_self m, z⟩, ?_⟩
        cases e3 : f ρ1 with
        | none =>
          simp only [e3] at e1
          cases e1
        | some o =>
          simp only [e3] at e1
          refine hf ρ1 σ' H1 F' As1 _ o q1.st q1.nl e3 ?_
          cases o with
          | nx ρ2 => exact fun σ2 H2 F2 As2 r => ⟨ρ2, F2, As2, q1.trans r (fun _ z => nomatch z), e1⟩
          | ct ρ2 => exact fun σ2 H2 F2 As2 r => ⟨ρ2, F2, As2, q1.trans r (fun _ z => nomatch z), e1⟩
          | bk ρ2 =>
            cases e1
            exact fun σ2 H2 F2 As2 r => k σ2 H2 F2 As2 (q1.trans r fun _ z => nomatch z)
          | rt r ρ2 =>
            cases e1
            exact fun v σ2 H2 F2 G2 As2 B r => k v σ2 H2 F2 G2 As2 B (q1.ret r)
structure Later (W : Wd) (G H0 H : Hp) : Prop where
  g : Same G H
  t : ∀ a vs, SqT W.K H0 a vs → SqT W.K H a vs
structure IterOk (W : Wd) (J : It) (G H0 : Hp) (ds : List D) : Prop where
  go : ∀ H i, Later W G H0 H → i < ds.length → J.go i H
  stop : ∀ H, Later W G H0 H → J.stop ds.length H
  yld : ∀ H i x H' d, Later W G H0 H → ds[i]? = some d → J.yld i H x H' → (∀ a o, H a = some o → H' a = some o) ∧ Rep W H' G .F d x []
def SimI (W : Wd) (wi : TI) (f : SI) : Prop :=
  ∀ (ρ : Env) (σ : L2.St) (H F G : Hp) (As : Nat → List Addr) (ds : List D) (ρ' : Env) (R : It → Hp → Prop), Sta W ρ σ H F G As → f ρ = some (ds, ρ') →
    (∀ J H' G' As', Post W ρ σ H F G As ρ' H' G' As' → IterOk W J G' H' ds → R J H') → wi σ H R
theorem Sta.grow (S : Sta W ρ σ H F F As) (h : ∀ a o, H a = some o → H' a = some o) : Sta W ρ σ H' F F As := by
  refine ⟨S.len, fun i s e => ?_, fun i s e l a ha => ?_, S.free, S.none, S.nd, S.dj, S.fo, S.fg, fun a o e => h a o (S.gh a o e)⟩
  · obtain ⟨v, hv, r⟩ := S.slot i s e
    exact ⟨v, hv, r.mono (S.tup fun a o e _ => h a o e) (Same.refl _) fun a _ o e => h a o e⟩
  · obtain ⟨o, eo, _⟩ := S.own ha
    have z := S.lock i s e l a ha
    rw [z, eo, h a o eo]
theorem grow_step (S : Sta W ρ σ H F F As) (n : NoLk ρ) (h : ∀ a o, H a = some o → H' a = some o) : Step W [] ρ σ H F As ρ σ H' F As :=
  ⟨S.grow h, n, fun a o e _ _ => h a o e, (fun a e => by
    cases q : H a with
    | none => rfl
    | some o => rw [h a o q] at e; cases e), Same.refl _, fun _ e q => absurd e q, fun i a z => .inr (.inl ⟨i, z⟩), (S.tup fun a o e _ => h a o e), rfl, fun _ _ => rfl⟩
theorem sim_for {wi : TI} {g : TG} {t : TS} {s : SI} {gf : STg} {f : SS} {ws : List Nat} (hi : SimI W wi s) (hg : SimG W ws g gf) (hf : SimS W t f) : SimS W (tFor wi g t) (sFor s gf f) := by
  intro ρ σ H F As D out S n e k
  unfold sFor at e
  split at e
  case h_2 => cases e
  rename_i ds ρ1 e1
  refine hi ρ σ H F F As ds _ _ S e1 fun J H1 G1 As1 p ok => ?_
  obtain ⟨As2, q, _⟩ := settleF_ok S n p
  rw [freeze2_eq S n p] at e
  have k := k.trans q
  have S1 := q.st
  have n1 := q.nl
  clear q p
  refine ⟨fun i m σ' H' => m = ds.length - i ∧ i ≤ ds.length ∧ ∃ ρ' F' As', Step W [] (freeze ρ1) σ H1 G1 As2 ρ' σ' H' F' As' ∧ forGo gf f (ds.drop i) ρ' = some out,
    ⟨ds.length, by simp, Nat.zero_le _, freeze ρ1, G1, As2, Step.refl S1 n1, e⟩, ?_⟩
  rintro i m σ' H' ⟨rfl, hle, ρ', F', As', p, e2⟩
  have L : Later W G1 H1 H' := ⟨fun a o e => p.st.gh a o (p.ff a o e), p.tp⟩
  by_cases hlt : i < ds.length
  · refine .inr ⟨ok.go H' i L hlt, fun σ2 H2 => ∃ ρ2 F2 As2', Step W [] (freeze ρ1) σ H1 G1 As2 ρ2 σ2 H2 F2 As2' ∧ forGo gf f (ds.drop (i + 1)) ρ2 = some out, fun σ2 H2 z => ⟨ds.length - (i + 1), by omega, rfl, hlt, z⟩, fun x H2 y => ?_⟩
    obtain ⟨kp, rx⟩ := ok.yld H' i x H2 ds[i] L (by simp [hlt]) y
    have ed : ds.drop i = ds[i] :: ds.drop (i + 1) := List.drop_eq_getElem_cons hlt
    rw [ed, forGo] at e2
    split at e2
    case h_2 => cases e2
    rename_i ρ3 e3
    have q1 := p.trans (grow_step p.st p.nl kp) fun _ z => nomatch z
    refine hg ρ' σ' H2 F' As' _ x [] _ _ q1.st q1.nl ((rx.mono (fun _ _ z => z) p.ff fun _ z => nomatch z).nrm) tmp_nil e3 fun σ3 H3 F3 As3 r _ => ?_
    have q2 := q1.trans r fun _ z => nomatch z
    cases e4 : f ρ3 with
    | none =>
      simp only [e4] at e2
      cases e2
    | some o =>
      simp only [e4] at e2
      refine hf ρ3 σ3 H3 F3 As3 _ o q2.st q2.nl e4 ?_
      cases o with
      | nx ρ4 => exact fun σ4 H4 F4 As4 r => ⟨ρ4, F4, As4, q2.trans r (fun _ z => nomatch z), e2⟩
      | ct ρ4 => exact fun σ4 H4 F4 As4 r => ⟨ρ4, F4, As4, q2.trans r (fun _ z => nomatch z), e2⟩
      | bk ρ4 =>
        cases e2
        exact fun σ4 H4 F4 As4 r => k σ4 H4 F4 As4 (q2.trans r fun _ z => nomatch z)
      | rt r ρ4 =>
        cases e2
        exact fun v σ4 H4 F4 G4 As4 B r => k v σ4 H4 F4 G4 As4 B (q2.ret r)
  · have ei : i = ds.length := by omega
    subst ei
    rw [List.drop_length, forGo] at e2
    cases e2
    exact .inl ⟨ok.stop H' L, k σ' H' F' As' p⟩
def spPure (W : Wd) (n : Nat) (g : List D → Option Val) : Sp := fun vs H Q _ =>
  ∃ ds G r, ds.length = n ∧ Same G H ∧ Reps W H G .F ds vs [] ∧ g ds = some r ∧ ∀ v H' G' C, VPost W H G [] r v H' G' C → Q v H'
theorem spPure_len {n : Nat} {g : List D → Option Val} : ∀ vs H Q E, spPure W n g vs H Q E → vs.length = n := by
  rintro vs H Q E ⟨ds, G, r, hl, _, rp, _⟩
  rw [← rp.len]
  exact hl
theorem spPure_op {n : Nat} {g : List D → Option Val} {E : XK} (hn : ∀ ds, (g ds).isSome = true → ds.length = n) : VOp W (fun vs H Q => spPure W n g vs H Q E) (opFn g) := by
  intro H G rs vs A r Q gh rep nd ga e k
  have s1 : Same G (lookAt G H A) := lookAt_same ga
  have rf := rep.froze (G' := lookAt G H A) s1 fun a ha => lookAt_in ha
  refine ⟨rs.map fun (x : Val) => x.d, lookAt G H A, r, hn _ (by unfold opFn at e; rw [e]; rfl), lookAt_sub gh, rf, e, fun v H' G' C q => ?_⟩
  refine k v H' G' C ⟨q.keep, s1.trans q.gg, q.gh, fun a e1 e2 => ?_, q.rep, q.nd, q.cg, fun c hc => .inl ?_⟩
  · by_cases z : a ∈ A
    · exact .inr z
    · rcases q.gn a (by rw [lookAt_out z]; exact e1) e2 with y | y
      · exact .inl y
      · cases y
  · rcases q.cn c hc with y | y
    · exact y
    · cases y
def Env.start (n : Nat) (ds : List D) : Env := ds.map (fun d => some (par d)) ++ List.replicate (n - ds.length) none
theorem reps_get {m : Mode} : ∀ {ds : List D} {vs : List V} {A : List Addr} {i : Nat} {d : D}, Reps W H G m ds vs A → m = .F → ds[i]? = some d → ∃ v, vs[i]? = some v ∧ Rep W H G m d v []
  | _, _, _, _, _, .nil _, _, e => by cases e
  | _, _, _, 0, _, .cons (v := v) h r, hm, e => by
    cases e
    refine ⟨v, rfl, ?_⟩
    have z := h.Fnil hm
    subst z
    exact h
  | _, _, _, i + 1, _, .cons h r, hm, e => by
    obtain ⟨v, h1, h2⟩ := reps_get (i := i) r hm e
    exact ⟨v, h1, h2⟩
theorem rep_par {d : D} {v : V} {A : List Addr} (r : Rep W H G .F d v A) : Rep W H G (par d).m (par d).d v A := by
  have q := r.nrm
  have e : (nrm .F d).d = d := by unfold nrm; split <;> rfl
  rw [e] at q
  exact q
theorem start_sta {N : List Str} {ds : List D} {vs : List V} (hl : ds.length ≤ N.length) (gh : Same G H) (rp : Reps W H G .F ds vs []) : Sta W (Env.start N.length ds) (L2.start N vs) H G G (fun _ => []) ∧ NoLk (Env.start N.length ds) := by
  have el := rp.len
  have get : ∀ (i : Nat) (s : Slot), (Env.start N.length ds)[i]? = some (some s) → ∃ d, ds[i]? = some d ∧ s = par d := fun i s h => by
    unfold Env.start at h
    by_cases q : i < ds.length
    · rw [List.getElem?_append_left (by simpa using q), List.getElem?_map] at h
      refine ⟨ds[i], by simp [q], ?_⟩
      rw [List.getElem?_eq_getElem q] at h
      simp at h
      exact h.symm
    · rw [List.getElem?_append_right (by simpa using q)] at h
      rw [List.getElem?_replicate] at h
      split at h <;> cases h
  refine ⟨⟨?_, fun i s h => ?_, fun _ _ _ _ _ z => (nomatch z), fun _ _ _ _ _ z => (nomatch z), fun _ _ => rfl, fun _ => List.nodup_nil, fun _ _ _ z => (nomatch z), fun _ _ z => (nomatch z), Same.refl _, gh⟩, fun i s h => ?_⟩
  · unfold Env.start L2.start
    simp only [List.length_append, List.length_map, List.length_replicate]
    rw [el]
  · obtain ⟨d, e, rfl⟩ := get i s h
    obtain ⟨v, hv, r⟩ := reps_get rp rfl e
    refine ⟨v, ?_, rep_par r⟩
    unfold L2.start
    have q : i < vs.length := lt_of_get hv
    rw [List.getElem?_append_left (by simpa using q), List.getElem?_map, hv]
    rfl
  · obtain ⟨d, e, rfl⟩ := get i s h
    rfl
/-- a def's body, from its parameters -/
theorem body_ok {N : List Str} {t : TS} {b : SS} {vs : List V} {Q : VK} {E : XK} {n : Nat} (hb : SimS W t b) (hn : n ≤ N.length) (h : spPure W n (fnSem n N.length b) vs H Q E) : t { nx := fun _ H' => Q .non H', rt := Q } (L2.start N vs) H := by
  obtain ⟨ds, G, r, hl, gh, rp, e, k⟩ := h
  obtain ⟨S, nl⟩ := start_sta (N := N) (ds := ds) (by omega) gh rp
  unfold fnSem at e
  rw [if_pos hl] at e
  split at e
  · rename_i r1 ρ1 e1
    cases e
    refine hb _ _ H G _ _ _ S nl e1 ?_
    intro v σ' H' F' G' As' B q
    refine k v H' G' B ⟨fun a o e => q.keep a o e fun _ z => (nomatch z), q.fg, q.st.gh, fun a e n => ?_, q.rep, q.tmp.nd, q.tmp.g, fun c hc => ?_⟩
    · rcases q.gn a e n with y | ⟨_, y⟩
      · exact .inl y
      · cases y
    · rcases q.org c hc with y | ⟨_, y⟩
      · exact .inl y
      · cases y
  · rename_i ρ1 e1
    cases e
    refine hb _ _ H G _ _ _ S nl e1 ?_
    intro σ' H' F' As' q
    refine k .non H' F' [] ⟨fun a o e => q.keep a o e (fun _ z => (nomatch z)) fun z => (nomatch z), q.ff, q.st.gh, fun a e n => ?_, .non _, List.nodup_nil, fun _ z => (nomatch z), fun _ z => (nomatch z)⟩
    rcases q.fn a e n with y | ⟨_, y⟩ | y
    · exact .inl y
    · cases y
    · cases y
  · cases e
theorem fnSem_len {np n : Nat} {b : SS} {ds : List D} (h : (fnSem np n b ds).isSome = true) : ds.length = np := by
  unfold fnSem at h
  split at h
  · assumption
  · cases h
end
section
variable {K : PySem.W.Frag} {cl : String → Addr} {p q : Nat → Bool} {H G : Hp}
mutual
theorem Rep.pin : ∀ {m : Mode} {d : D} {v : V} {A : List Addr}, Rep ⟨K, cl, p⟩ H G m d v A → Rep ⟨K, cl, q⟩ H G m d v A
  | _, _, _, _, .non m => .non m
  | _, _, _, _, .bl m b => .bl m b
  | _, _, _, _, .int m b => .int m b
  | _, _, _, _, .str m b => .str m b
  | _, _, _, _, .ty m b => .ty m b
  | _, _, _, _, .cl m b => .cl m b
  | _, _, _, _, .exc m b => .exc m b
  | _, _, _, _, .tup h r => .tup h (Reps.pin r)
  | _, _, _, _, .lstF h r => .lstF h (Reps.pin r)
  | _, _, _, _, .lstS h r => .lstS h (Reps.pin r)
  | _, _, _, _, .lstO h r => .lstO h (Reps.pin r)
  | _, _, _, _, .scr h => .scr h
  | _, _, _, _, .insF h r => .insF h (Repf.pin r)
  | _, _, _, _, .insS h r => .insS h (Repf.pin r)
  | _, _, _, _, .insO h r => .insO h (Repf.pin r)
theorem Reps.pin : ∀ {m : Mode} {d : List D} {v : List V} {A : List Addr}, Reps ⟨K, cl, p⟩ H G m d v A → Reps ⟨K, cl, q⟩ H G m d v A
  | _, _, _, _, .nil m => .nil m
  | _, _, _, _, .cons h r => .cons (Rep.pin h) (Reps.pin r)
theorem Repf.pin : ∀ {m : Mode} {d : List (Str × D)} {v : List (Str × V)} {A : List Addr}, Repf ⟨K, cl, p⟩ H G m d v A → Repf ⟨K, cl, q⟩ H G m d v A
  | _, _, _, _, .nil m => .nil m
  | _, _, _, _, .cons h r => .cons (Rep.pin h) (Repf.pin r)
end
theorem spPure_pin {n : Nat} {g : List D → Option Val} {vs : List V} {Q : VK} {E : XK} (h : spPure ⟨K, cl, p⟩ n g vs H Q E) : spPure ⟨K, cl, q⟩ n g vs H Q E := by
  obtain ⟨ds, G, r, hl, gh, rp, e, k⟩ := h
  exact ⟨ds, G, r, hl, gh, rp.pin, e, fun v H' G' C z => k v H' G' C ⟨z.keep, z.gg, z.gh, z.gn, z.rep.pin, z.nd, z.cg, z.cn⟩⟩
end
end Tr
namespace Tr
open PySem L2
section
variable {W : Wd} {H G H' G' : Hp} {A B C : List Addr} {r : Val} {v : V}
theorem vpost_same {d : D} (gh : Same G H) (rep : Rep W H G .O d v []) : VPost W H G A ⟨.O, d⟩ v H G [] :=
  ⟨fun _ _ e => e, Same.refl _, gh, fun _ e n => absurd e n, rep, List.nodup_nil, fun _ z => (nomatch z), fun _ z => (nomatch z)⟩
theorem upd_keep {p : Addr} {u : HO} (hp : H p = none) : ∀ a o, H a = some o → upd H p u a = some o := fun a o e => by
  rw [upd_ne (ne_of_none e hp)]
  exact e
theorem seqT_keep (k : ∀ a o, H a = some o → H' a = some o) : ∀ a vs, SqT W.K H a vs → SqT W.K H' a vs := fun a vs h => by
  rcases h with (h | ⟨o, h⟩) | h
  · exact .inl (.inl (k _ _ h))
  · exact .inl (.inr ⟨o, k _ _ h⟩)
  · exact .inr h
theorem repL1 {r : Val} {vs : List V} (h : RepL W H G [r] vs A) : ∃ v, vs = [v] ∧ Rep W H G r.m r.d v A := by
  cases h with
  | cons h t =>
    cases t
    exact ⟨_, rfl, by rw [List.append_nil]; exact h⟩
theorem repL2 {r s : Val} {vs : List V} (h : RepL W H G [r, s] vs A) : ∃ v u A1 A2, vs = [v, u] ∧ A = A1 ++ A2 ∧ Rep W H G r.m r.d v A1 ∧ Rep W H G s.m s.d u A2 := by
  cases h with
  | cons h t =>
    obtain ⟨u, rfl, h2⟩ := repL1 t
    exact ⟨_, _, _, _, rfl, rfl, h, h2⟩
theorem rep_int {m : Mode} {i : Int} (h : Rep W H G m (.int i) v A) : v = .int i ∧ A = [] := by cases h; exact ⟨rfl, rfl⟩
theorem rep_bl {m : Mode} {i : Bool} (h : Rep W H G m (.bl i) v A) : v = .bl i ∧ A = [] := by cases h; exact ⟨rfl, rfl⟩
theorem rep_str {m : Mode} {i : Str} (h : Rep W H G m (.str i) v A) : v = .str i ∧ A = [] := by cases h; exact ⟨rfl, rfl⟩
theorem rep_non {m : Mode} (h : Rep W H G m .non v A) : v = .non ∧ A = [] := by cases h; exact ⟨rfl, rfl⟩
theorem vop_ii {R : R2} {g : List Val → Option Val} (c : Int → Int → Prop) (f : Int → Int → D) (fv : Int → Int → V) (hg : ∀ rs r, g rs = some r → ∃ m n i j, rs = [⟨m, .int i⟩, ⟨n, .int j⟩] ∧ c i j ∧ r = ⟨.O, f i j⟩)
    (hf : ∀ i j H G, Rep W H G .O (f i j) (fv i j) []) (hr : ∀ i j H Q, c i j → Q (fv i j) H → R (.int i) (.int j) H Q) : VOp W (rr2 R) g := by
  intro H G rs vs A r Q gh rep nd ga e k
  obtain ⟨m, n, i, j, rfl, hc, rfl⟩ := hg rs r e
  obtain ⟨v, u, A1, A2, rfl, rfl, h1, h2⟩ := repL2 rep
  obtain ⟨rfl, rfl⟩ := rep_int h1
  obtain ⟨rfl, rfl⟩ := rep_int h2
  exact hr i j H Q hc (k _ H G [] (vpost_same gh (hf i j H G)))
theorem VOp.or {R R' : R2} {g : List Val → Option Val} (h : VOp W (rr2 fun x y H Q => R x y H Q ∨ R' x y H Q) g) : VOp W (rr2 fun x y H Q => R x y H Q ∨ R' x y H Q) g := h
theorem vop_sub : VOp W (rr2 (rI0 fun i j => .int (i - j))) opSub :=
  vop_ii (fun _ _ => True) (fun i j => .int (i - j)) (fun i j => .int (i - j)) (fun rs r e => by
    unfold opSub at e
    split at e
    · cases e; exact ⟨_, _, _, _, rfl, trivial, rfl⟩
    · cases e) (fun i j H G => .int _ _) fun i j H Q _ q => ⟨i, j, rfl, rfl, q⟩
theorem vop_mod : VOp W (rr2 (rI (fun _ j => j ≠ 0) fun i j => .int (i.fmod j))) opMod :=
  vop_ii (fun _ j => j ≠ 0) (fun i j => .int (i.fmod j)) (fun i j => .int (i.fmod j)) (fun rs r e => by
    unfold opMod at e
    split at e
    · split at e
      · cases e
      · rename_i h
        cases e
        exact ⟨_, _, _, _, rfl, h, rfl⟩
    · cases e) (fun i j H G => .int _ _) fun i j H Q c q => ⟨i, j, rfl, rfl, c, q⟩
def CDivZ (_ j : Int) : Prop := j ≠ 0 ∧ j.natAbs.log2 < 9000
theorem op_fdivZ {X : Cx} : OpR X (binaryOp .FloorDiv) (rI CDivZ fun i j => .int (i.fdiv j)) := opI fun _ _ _ _ _ _ _ hc q => PyProof.Rows.floordiv_int hc.1 q (.inl (PyProof.noPylong_of_log2 hc.2))
theorem vop_div : VOp W (rr2 (rI CDivZ fun i j => .int (i.fdiv j))) opDiv :=
  vop_ii CDivZ (fun i j => .int (i.fdiv j)) (fun i j => .int (i.fdiv j)) (fun rs r e => by
    unfold opDiv at e
    split at e
    · split at e
      · rename_i h
        cases e
        exact ⟨_, _, _, _, rfl, of_ok h, rfl⟩
      · cases e
    · cases e) (fun i j H G => .int _ _) fun i j H Q c q => ⟨i, j, rfl, rfl, c, q⟩
theorem vop_pow : VOp W (rr2 (rI CPow fun i j => .int (i ^ j.toNat))) opPow :=
  vop_ii CPow (fun i j => .int (i ^ j.toNat)) (fun i j => .int (i ^ j.toNat)) (fun rs r e => by
    unfold opPow at e
    split at e
    · split at e
      · rename_i h
        cases e
        exact ⟨_, _, _, _, rfl, of_ok h, rfl⟩
      · cases e
    · cases e) (fun i j H G => .int _ _) fun i j H Q c q => ⟨i, j, rfl, rfl, c, q⟩
theorem vop_cmp {p : Int → Int → Bool} : VOp W (rr2 (rI0 fun i j => .bl (p i j))) (opCmp p) :=
  vop_ii (fun _ _ => True) (fun i j => .bl (p i j)) (fun i j => .bl (p i j)) (fun rs r e => by
    unfold opCmp at e
    split at e
    · cases e; exact ⟨_, _, _, _, rfl, trivial, rfl⟩
    · cases e) (fun i j H G => .bl _ _) fun i j H Q _ q => ⟨i, j, rfl, rfl, q⟩
theorem vop_lt : VOp W (rr2 (rI0 fun i j => .bl (decide (i < j)))) opLt := vop_cmp
theorem vop_gt : VOp W (rr2 (rI0 fun i j => .bl (decide (j < i)))) opGt := vop_cmp
theorem vop_ge : VOp W (rr2 (rI0 fun i j => .bl (decide (j ≤ i)))) opGe := vop_cmp
theorem vop_neg : VOp W (rr1 (rU fun i => .int (-i))) opNeg := by
  intro H G rs vs A r Q gh rep nd ga e k
  unfold opNeg at e
  split at e
  · cases e
    obtain ⟨v, rfl, h1⟩ := repL1 rep
    obtain ⟨rfl, rfl⟩ := rep_int h1
    exact ⟨_, rfl, k _ H G [] (vpost_same gh (.int _ _))⟩
  · cases e
/-- a list as it stands, its items looked at -/
theorem rep_lst {m : Mode} {xs : List D} (gh : Same G H) (h : Rep W H G m (.lst xs) v A) (hG : Same G G') (hA : ∀ a ∈ A, G' a = H a) : ∃ a vs, v = .ref a ∧ H a = some (.lst vs) ∧ Reps W H G' .F xs vs [] := by
  cases h with
  | lstF h r => exact ⟨_, _, rfl, gh _ _ h, r.froze hG fun _ z => nomatch z⟩
  | lstS h r => exact ⟨_, _, rfl, h, r.froze hG fun _ z => nomatch z⟩
  | lstO h r => exact ⟨_, _, rfl, h, r.froze hG fun a z => hA a (List.mem_cons_of_mem _ z)⟩
theorem rep_tup {m : Mode} {xs : List D} (h : Rep W H G m (.tup xs) v A) : ∃ a vs, v = .ref a ∧ SqT W.K H a vs ∧ Reps W H G m xs vs A := by
  cases h with
  | tup h r => exact ⟨_, _, rfl, h, r⟩
theorem reps_append {m : Mode} : ∀ {xs ys : List D} {vs us : List V} {A B : List Addr}, Reps W H G m xs vs A → Reps W H G m ys us B → Reps W H G m (xs ++ ys) (vs ++ us) (A ++ B)
  | _, _, _, _, _, _, .nil _, q => q
  | _, _, _, _, _, _, .cons h r, q => by
    rw [List.append_assoc]
    exact .cons h (reps_append r q)
theorem reps_rep {xs : List D} {vs : List V} (h : Reps W H G .F xs vs []) : ∀ n : Nat, Reps W H G .F (List.replicate n xs).flatten (List.replicate n vs).flatten []
  | 0 => .nil _
  | n + 1 => by
    rw [List.replicate_succ, List.replicate_succ, List.flatten_cons, List.flatten_cons]
    exact reps_append h (reps_rep h n)
theorem bitOk_iff {a b : Int} : bitOk a b = true ↔ CMulW a b := by
  unfold bitOk CMulW
  exact ok_iff
/-- a new list, its items looked at -/
theorem vpost_new {xs : List D} {vs : List V} (gh : Same G H) (ga : ∀ a ∈ A, G a = none) {p : Addr} (hp : H p = none) (rp : Reps W H (lookAt G H A) .F xs vs []) :
    ∃ G', VPost W H G A (mkL xs) (.ref p) (upd H p (.lst vs)) G' [p] := by
  have kp := upd_keep (u := .lst vs) hp
  by_cases f : D.flats xs = true
  · obtain ⟨_, q⟩ := rp.flat f
    refine ⟨G, kp, Same.refl _, fun a o e => kp a o (gh a o e), fun _ e n => absurd e n, ?_, by simp, fun c hc => ?_, fun c hc => .inl ?_⟩
    · have e : mkL xs = ⟨.O, .lst xs⟩ := by unfold mkL; rw [if_pos f]
      rw [e]
      exact .lstO (A := []) upd_same ((q .O G).mono (seqT_keep kp) (Same.refl _) fun _ z => nomatch z)
    · rw [List.mem_singleton] at hc
      subst hc
      cases z : G c with
      | none => rfl
      | some o => rw [gh c o z] at hp; cases hp
    · rw [List.mem_singleton] at hc
      subst hc
      exact hp
  · refine ⟨lookAt G H A, kp, lookAt_same ga, fun a o e => kp a o (lookAt_sub gh a o e), fun a e n => ?_, ?_, by simp, fun c hc => ?_, fun c hc => .inl ?_⟩
    · by_cases z : a ∈ A
      · exact .inr z
      · rw [lookAt_out z] at n
        exact absurd e n
    · have e : mkL xs = ⟨.S, .lst xs⟩ := by unfold mkL; rw [if_neg f]
      rw [e]
      exact .lstS upd_same (rp.mono (seqT_keep kp) (Same.refl _) fun _ z => nomatch z)
    · rw [List.mem_singleton] at hc
      subst hc
      cases z : lookAt G H A c with
      | none => rfl
      | some o => rw [lookAt_sub gh c o z] at hp; cases hp
    · rw [List.mem_singleton] at hc
      subst hc
      exact hp
def rAdd3 : R2 := fun x y H Q => (rI0 (fun i j => .int (i + j)) x y H Q ∨ (∃ i j, x = .str i ∧ y = .str j ∧ i.length + j.length ≤ sizeLine ∧ Q (.str (i ++ j)) H)) ∨ rCat x y H Q
theorem op_add3 {X : Cx} : OpR X (binaryOp .Add) rAdd3 := (op_add.or op_add_str).or op_cat
theorem vop_add : VOp W (rr2 rAdd3) opAdd := by
  intro H G rs vs A r Q gh rep nd ga e k
  unfold opAdd at e
  split at e
  · cases e
    obtain ⟨v, u, A1, A2, rfl, rfl, h1, h2⟩ := repL2 rep
    obtain ⟨rfl, rfl⟩ := rep_int h1
    obtain ⟨rfl, rfl⟩ := rep_int h2
    exact .inl (.inl ⟨_, _, rfl, rfl, k _ H G [] (vpost_same gh (.int _ _))⟩)
  · split at e
    · rename_i hl
      cases e
      obtain ⟨v, u, A1, A2, rfl, rfl, h1, h2⟩ := repL2 rep
      obtain ⟨rfl, rfl⟩ := rep_str h1
      obtain ⟨rfl, rfl⟩ := rep_str h2
      exact .inl (.inr ⟨_, _, rfl, rfl, of_ok hl, k _ H G [] (vpost_same gh (.str _ _))⟩)
    · cases e
  · split at e
    · rename_i hl
      cases e
      obtain ⟨v, u, A1, A2, rfl, rfl, h1, h2⟩ := repL2 rep
      obtain ⟨a, xs, rfl, ha, ra⟩ := rep_lst gh h1 (lookAt_same ga) fun a z => lookAt_in (List.mem_append_left _ z)
      obtain ⟨b, ys, rfl, hb, rb⟩ := rep_lst gh h2 (lookAt_same ga) fun a z => lookAt_in (List.mem_append_right _ z)
      refine .inr ⟨a, b, xs, ys, rfl, rfl, ha, hb, by rw [← ra.len, ← rb.len]; exact of_ok hl, fun p hp => ?_⟩
      obtain ⟨G', q⟩ := vpost_new gh ga hp (reps_append ra rb)
      exact k _ _ _ _ q
    · cases e
  · cases e
def rMul3 : R2 := fun x y H Q => rI CMulW (fun i j => .int (i * j)) x y H Q ∨ rRep x y H Q
theorem op_mul3 {X : Cx} : OpR X (binaryOp .Mult) rMul3 := op_mulW.or op_rep
theorem vop_mul : VOp W (rr2 rMul3) opMul := by
  intro H G rs vs A r Q gh rep nd ga e k
  unfold opMul at e
  split at e
  · split at e
    · rename_i hb
      cases e
      obtain ⟨v, u, A1, A2, rfl, rfl, h1, h2⟩ := repL2 rep
      obtain ⟨rfl, rfl⟩ := rep_int h1
      obtain ⟨rfl, rfl⟩ := rep_int h2
      exact .inl ⟨_, _, rfl, rfl, bitOk_iff.mp hb, k _ H G [] (vpost_same gh (.int _ _))⟩
    · cases e
  · split at e
    · rename_i hb
      cases e
      obtain ⟨v, u, A1, A2, rfl, rfl, h1, h2⟩ := repL2 rep
      obtain ⟨rfl, rfl⟩ := rep_int h2
      obtain ⟨a, xs, rfl, ha, ra⟩ := rep_lst gh h1 (lookAt_same ga) fun a z => lookAt_in (List.mem_append_left _ z)
      refine .inr ⟨a, _, xs, rfl, rfl, ha, (of_ok hb).1, (of_ok hb).2.1, by rw [← ra.len]; exact (of_ok hb).2.2, fun p hp => ?_⟩
      obtain ⟨G', q⟩ := vpost_new gh ga hp (reps_rep ra _)
      exact k _ _ _ _ q
    · cases e
  · cases e
mutual
theorem Rep.dp (gh : Same G H) : ∀ {m : Mode} {d : D} {v : V} {A : List Addr}, Rep W H G m d v A → d.plain = true → Dp W.K H v d.py
  | _, _, _, _, .non _, _ => .non
  | _, _, _, _, .bl _ b, _ => .bl b
  | _, _, _, _, .int _ i, _ => .int i
  | _, _, _, _, .str _ x, _ => .str x
  | _, _, _, _, .ty _ n, k => by rw [D.plain] at k; cases k
  | _, _, _, _, .cl _ n, k => by rw [D.plain] at k; cases k
  | _, _, _, _, .exc _ n, k => by rw [D.plain] at k; cases k
  | _, _, _, _, .tup h r, k => .tup h (Reps.dp gh r (by rw [D.plain] at k; exact k))
  | _, _, _, _, .lstF h r, k => .lst (SqL.of (gh _ _ h)) (Reps.dp gh r (by rw [D.plain] at k; exact k))
  | _, _, _, _, .lstS h r, k => .lst (SqL.of h) (Reps.dp gh r (by rw [D.plain] at k; exact k))
  | _, _, _, _, .lstO h r, k => .lst (SqL.of h) (Reps.dp gh r (by rw [D.plain] at k; exact k))
  | _, _, _, _, .scr (ns := ns) h, _ => .lst (gh.seq h) (dp_ints ns)
  | _, _, _, _, .insF _ _, k => by rw [D.plain] at k; cases k
  | _, _, _, _, .insS _ _, k => by rw [D.plain] at k; cases k
  | _, _, _, _, .insO _ _, k => by rw [D.plain] at k; cases k
theorem Reps.dp (gh : Same G H) : ∀ {m : Mode} {d : List D} {v : List V} {A : List Addr}, Reps W H G m d v A → D.plains d = true → DpAll W.K H v (D.pys d)
  | _, _, _, _, .nil _, _ => .nil
  | _, _, _, _, .cons h r, k => by
    rw [D.plains, Bool.and_eq_true] at k
    exact .cons (Rep.dp gh h k.1) (Reps.dp gh r k.2)
theorem dp_ints : ∀ ns : List Int, DpAll W.K H (ns.map V.int) (ns.map PyData.int)
  | [] => .nil
  | n :: ns => .cons (.int n) (dp_ints ns)
end
theorem vop_eq : VOp W (rr2 (rEqD W.K)) opEq := by
  intro H G rs vs A r Q gh rep nd ga e k
  unfold opEq at e
  split at e
  · split at e
    · rename_i hb
      cases e
      rw [Bool.and_eq_true] at hb
      obtain ⟨h1, h2⟩ := hb
      unfold pyOk at h1 h2
      rw [Bool.and_eq_true] at h1 h2
      obtain ⟨v, u, A1, A2, rfl, rfl, r1, r2⟩ := repL2 rep
      exact ⟨_, _, r1.dp gh h1.1, r2.dp gh h2.1, h1.2, h2.2, k _ H G [] (vpost_same gh (.bl _ _))⟩
    · cases e
  · cases e
theorem vop_ne : VOp W (rr2 (rNeD W.K)) opNe := by
  intro H G rs vs A r Q gh rep nd ga e k
  unfold opNe at e
  split at e
  · split at e
    · rename_i hb
      cases e
      rw [Bool.and_eq_true] at hb
      obtain ⟨h1, h2⟩ := hb
      unfold pyOk at h1 h2
      rw [Bool.and_eq_true] at h1 h2
      obtain ⟨v, u, A1, A2, rfl, rfl, r1, r2⟩ := repL2 rep
      exact ⟨_, _, r1.dp gh h1.1, r2.dp gh h2.1, h1.2, h2.2, k _ H G [] (vpost_same gh (.bl _ _))⟩
    · cases e
  · cases e
theorem rep_isNon {m : Mode} {d : D} (h : Rep W H G m d v A) : decide (v = .non) = d.isNon := by
  cases h <;> simp [D.isNon]
def rIsN : R2 := fun x y H Q => y = .non ∧ Q (.bl (decide (x = .non))) H
def rNotN : R2 := fun x y H Q => y = .non ∧ Q (.bl (!decide (x = .non))) H
theorem vop_isN : VOp W (rr2 rIsN) opIsN := by
  intro H G rs vs A r Q gh rep nd ga e k
  unfold opIsN at e
  split at e
  · cases e
    obtain ⟨v, u, A1, A2, rfl, rfl, r1, r2⟩ := repL2 rep
    obtain ⟨rfl, rfl⟩ := rep_non r2
    refine ⟨rfl, ?_⟩
    rw [rep_isNon r1]
    exact k _ H G [] (vpost_same gh (.bl _ _))
  · cases e
theorem vop_notN : VOp W (rr2 rNotN) opNotN := by
  intro H G rs vs A r Q gh rep nd ga e k
  unfold opNotN at e
  split at e
  · cases e
    obtain ⟨v, u, A1, A2, rfl, rfl, r1, r2⟩ := repL2 rep
    obtain ⟨rfl, rfl⟩ := rep_non r2
    refine ⟨rfl, ?_⟩
    rw [rep_isNon r1]
    exact k _ H G [] (vpost_same gh (.bl _ _))
  · cases e
theorem repL_O : ∀ {rs : List Val} {vs : List V} {A : List Addr}, RepL W H G rs vs A → allO rs = true → Reps W H G .O (ds rs) vs A
  | _, _, _, .nil, _ => .nil _
  | _, _, _, .cons h r, k => by
    rw [allO, Bool.and_eq_true] at k
    have e := of_decide_eq_true k.1
    rw [e] at h
    exact .cons h (repL_O r k.2)
theorem repL_S : ∀ {rs : List Val} {vs : List V} {A : List Addr}, RepL W H G rs vs A → allS rs = true → Reps W H G .S (ds rs) vs A
  | _, _, _, .nil, _ => .nil _
  | _, _, _, .cons h r, k => by
    rw [allS, Bool.and_eq_true, Bool.or_eq_true] at k
    rcases k.1 with e | e
    · have e := of_decide_eq_true e
      rw [e] at h
      exact .cons h (repL_S r k.2)
    · obtain ⟨z, q⟩ := h.flat e
      subst z
      exact .cons (q _ _) (repL_S r k.2)
theorem repL_len : ∀ {rs : List Val} {vs : List V} {A : List Addr}, RepL W H G rs vs A → rs.length = vs.length
  | _, _, _, .nil => rfl
  | _, _, _, .cons _ r => by rw [List.length_cons, List.length_cons, repL_len r]
def rTup : RV := fun xs H Q => xs.length ≤ sizeLine ∧ ∀ p, H p = none → Q (.ref p) (upd H p (.tup xs))
def rLst : RV := fun xs H Q => xs.length ≤ sizeLine ∧ ∀ p, H p = none → Q (.ref p) (upd H p (.lst xs))
theorem vop_tup : VOp W rTup opTup := by
  intro H G rs vs A r Q gh rep nd ga e k
  unfold opTup at e
  split at e
  case isFalse => cases e
  rename_i hl
  refine ⟨by rw [← repL_len rep]; exact of_ok hl, fun p hp => ?_⟩
  have kp := upd_keep (u := .tup vs) hp
  have T : SqT W.K (upd H p (.tup vs)) p vs := SqT.of upd_same
  have gu : Same G (upd H p (.tup vs)) := fun a o e => kp a o (gh a o e)
  split at e
  · rename_i hO
    cases e
    exact k _ _ G A ⟨kp, Same.refl _, gu, fun _ e n => absurd e n, .tup T ((repL_O rep hO).mono (seqT_keep kp) (Same.refl _) fun a _ o e => kp a o e), nd, ga, fun c hc => .inr hc⟩
  split at e
  · rename_i hS
    cases e
    exact k _ _ G A ⟨kp, Same.refl _, gu, fun _ e n => absurd e n, .tup T ((repL_S rep hS).mono (seqT_keep kp) (Same.refl _) fun a _ o e => kp a o e), nd, ga, fun c hc => .inr hc⟩
  · cases e
    have rf := rep.froze (G' := lookAt G H A) (lookAt_same ga) fun a ha => lookAt_in ha
    refine k _ _ (lookAt G H A) [] ⟨kp, lookAt_same ga, fun a o e => kp a o (lookAt_sub gh a o e), fun a e n => ?_, .tup T (rf.mono (seqT_keep kp) (Same.refl _) fun _ z => nomatch z), List.nodup_nil, fun _ z => (nomatch z), fun _ z => (nomatch z)⟩
    by_cases z : a ∈ A
    · exact .inr z
    · rw [lookAt_out z] at n
      exact absurd e n
theorem vop_lst : VOp W rLst opLst := by
  intro H G rs vs A r Q gh rep nd ga e k
  unfold opLst at e
  split at e
  case isFalse => cases e
  rename_i hl
  refine ⟨by rw [← repL_len rep]; exact of_ok hl, fun p hp => ?_⟩
  have kp := upd_keep (u := .lst vs) hp
  have gu : Same G (upd H p (.lst vs)) := fun a o e => kp a o (gh a o e)
  have np : ∀ a ∈ A, p ≠ a := fun a ha z => by
    obtain ⟨o, eo, _⟩ := rep.own a ha
    rw [← z, hp] at eo
    cases eo
  split at e
  · rename_i hO
    cases e
    refine k _ _ G (p :: A) ⟨kp, Same.refl _, gu, fun _ e n => absurd e n, .lstO upd_same ((repL_O rep hO).mono (seqT_keep kp) (Same.refl _) fun a _ o e => kp a o e), List.nodup_cons.mpr ⟨fun z => np p z rfl, nd⟩, fun c hc => ?_, fun c hc => ?_⟩
    · rcases List.mem_cons.mp hc with z | z
      · subst z
        cases z : G c with
        | none => rfl
        | some o => rw [gh c o z] at hp; cases hp
      · exact ga c z
    · rcases List.mem_cons.mp hc with z | z
      · subst z
        exact .inl hp
      · exact .inr z
  · cases e
    have rf := rep.froze (G' := lookAt G H A) (lookAt_same ga) fun a ha => lookAt_in ha
    refine k _ _ (lookAt G H A) [p] ⟨kp, lookAt_same ga, fun a o e => kp a o (lookAt_sub gh a o e), fun a e n => ?_, .lstS upd_same (rf.mono (seqT_keep kp) (Same.refl _) fun _ z => nomatch z), by simp, fun c hc => ?_, fun c hc => ?_⟩
    · by_cases z : a ∈ A
      · exact .inr z
      · rw [lookAt_out z] at n
        exact absurd e n
    · rw [List.mem_singleton] at hc
      subst hc
      cases z : lookAt G H A c with
      | none => rfl
      | some o => rw [lookAt_sub gh c o z] at hp; cases hp
    · rw [List.mem_singleton] at hc
      subst hc
      exact .inl hp
end
end Tr
namespace Tr
open PySem L2
section
variable {W : Wd} {H G H' G' : Hp} {A B C : List Addr} {r : Val} {v : V}
theorem atI_ix {α : Type} {xs : List α} {i : Int} {d : α} (h : atI xs i = some d) : ∃ j, ixN xs.length i = some j ∧ xs[j]? = some d := by
  unfold atI at h
  cases e : ixN xs.length i with
  | none => rw [e] at h; cases h
  | some j => rw [e] at h; exact ⟨j, rfl, h⟩
theorem atI_of {α : Type} {xs : List α} {i : Int} {j : Nat} {d : α} (h : ixN xs.length i = some j) (h2 : xs[j]? = some d) : atI xs i = some d := by
  unfold atI
  rw [h]
  exact h2
theorem reps_kid {m : Mode} : ∀ {ds : List D} {vs : List V} {A : List Addr} {j : Nat} {d : D}, Reps W H G m ds vs A → ds[j]? = some d → ∃ v C, vs[j]? = some v ∧ Rep W H G m d v C ∧ (∀ c ∈ C, c ∈ A) ∧ (A.Nodup → C.Nodup)
  | _, _, _, _, _, .nil _, e => by cases e
  | _, _, _, 0, _, .cons h r, e => by
    cases e
    exact ⟨_, _, rfl, h, fun c hc => List.mem_append_left _ hc, fun n => (List.nodup_append.mp n).1⟩
  | _, _, _, j + 1, _, .cons h r, e => by
    obtain ⟨v, C, h1, h2, h3, h4⟩ := reps_kid (j := j) r e
    exact ⟨v, C, h1, h2, fun c hc => List.mem_append_right _ (h3 c hc), fun n => h4 (List.nodup_append.mp n).2.1⟩
theorem vpost_kid {m : Mode} {d : D} (gh : Same G H) (ga : ∀ a ∈ A, G a = none) (nd : A.Nodup) (rep : Rep W H G m d v C) (hc : ∀ c ∈ C, c ∈ A) (cn : A.Nodup → C.Nodup) : VPost W H G A (nrm m d) v H G C :=
  ⟨fun _ _ e => e, Same.refl _, gh, fun _ e n => absurd e n, rep.nrm, cn nd, fun c z => ga c (hc c z), fun c z => .inr (hc c z)⟩
theorem ints_at : ∀ {ns : List Int} {j : Nat} {i : Int}, ns[j]? = some i → (ns.map V.int)[j]? = some (V.int i) := fun {ns j i} h => by
  rw [List.getElem?_map, h]
  rfl
theorem vop_idx : VOp W (rr2 (rIx W.K)) opIdx := by
  intro H G rs vs A r Q gh rep nd ga e k
  unfold opIdx at e
  split at e
  · cases e1 : atI _ _ with
    | none => rw [e1] at e; cases e
    | some d =>
      rw [e1] at e
      cases e
      obtain ⟨v, u, A1, A2, rfl, rfl, r1, r2⟩ := repL2 rep
      obtain ⟨rfl, rfl⟩ := rep_int r2
      rw [List.append_nil] at ga nd
      obtain ⟨j, h1, h2⟩ := atI_ix e1
      have fin : ∀ {a : Addr} {us : List V} {C : List Addr} {x : V} {m : Mode}, SqL W.K H a us → us.length = _ → us[j]? = some x → Rep W H G m d x C → (∀ c ∈ C, c ∈ A1) → (A1.Nodup → C.Nodup) → (∀ G' C, VPost W H G (A1 ++ []) (nrm m d) x H G' C → Q x H) → rIx W.K (.ref a) (.int _) H Q :=
        fun {a us C x m} hs hl hx rx hc hn kk => .inl ⟨a, us, _, x, rfl, rfl, hs, atI_of (by rw [hl]; exact h1) hx, kk G C (by rw [List.append_nil]; exact vpost_kid gh ga nd rx hc hn)⟩
      cases r1 with
      | lstF hl r =>
        obtain ⟨x, C, q1, q2, q3, q4⟩ := reps_kid r h2
        exact fin (SqL.of (gh _ _ hl)) r.len.symm q1 q2 q3 (fun n => q4 n) fun G' C p => k _ _ _ _ p
      | lstS hl r =>
        obtain ⟨x, C, q1, q2, q3, q4⟩ := reps_kid r h2
        exact fin (SqL.of hl) r.len.symm q1 q2 (fun c z => nomatch q3 c z) (fun n => q4 List.nodup_nil) fun G' C p => k _ _ _ _ p
      | lstO hl r =>
        obtain ⟨x, C, q1, q2, q3, q4⟩ := reps_kid r h2
        exact fin (SqL.of hl) r.len.symm q1 q2 (fun c z => List.mem_cons_of_mem _ (q3 c z)) (fun n => q4 (List.nodup_cons.mp n).2) fun G' C p => k _ _ _ _ p
  · cases e1 : atI _ _ with
    | none => rw [e1] at e; cases e
    | some d =>
      rw [e1] at e
      cases e
      obtain ⟨v, u, A1, A2, rfl, rfl, r1, r2⟩ := repL2 rep
      obtain ⟨rfl, rfl⟩ := rep_int r2
      rw [List.append_nil] at ga nd
      obtain ⟨j, h1, h2⟩ := atI_ix e1
      obtain ⟨a, us, rfl, hs, rs⟩ := rep_tup r1
      obtain ⟨x, C, q1, q2, q3, q4⟩ := reps_kid rs h2
      exact .inr (.inl ⟨a, us, _, x, rfl, rfl, hs, atI_of (by rw [← rs.len]; exact h1) q1, k _ _ G C (by rw [List.append_nil]; exact vpost_kid gh ga nd q2 q3 q4)⟩)
  · cases e1 : atI _ _ with
    | none => rw [e1] at e; cases e
    | some d =>
      rw [e1] at e
      cases e
      obtain ⟨v, u, A1, A2, rfl, rfl, r1, r2⟩ := repL2 rep
      obtain ⟨rfl, rfl⟩ := rep_int r2
      obtain ⟨j, h1, h2⟩ := atI_ix e1
      cases r1 with
      | scr hs => exact .inl ⟨_, _, _, _, rfl, rfl, gh.seq hs, atI_of (by rw [List.length_map]; exact h1) (ints_at h2), k _ _ G [] (vpost_same gh (.int _ _))⟩
  · split at e
    case isFalse => cases e
    rename_i hl
    cases e1 : atI _ _ with
    | none => rw [e1] at e; cases e
    | some d =>
      rw [e1] at e
      cases e
      obtain ⟨v, u, A1, A2, rfl, rfl, r1, r2⟩ := repL2 rep
      obtain ⟨rfl, rfl⟩ := rep_int r2
      obtain ⟨rfl, rfl⟩ := rep_str r1
      exact .inr (.inr ⟨_, _, _, rfl, rfl, of_ok hl, e1, k _ _ G [] (vpost_same gh (.str _ _))⟩)
  · cases e
def rLen (K : PySem.W.Frag) : RV := fun xs H Q => ∃ x n, xs = [x] ∧ LenV K x H n ∧ Q (.int n) H
theorem vop_len : VOp W (rLen W.K) opLen := by
  intro H G rs vs A r Q gh rep nd ga e k
  unfold opLen at e
  split at e
  · cases e
    obtain ⟨v, rfl, h1⟩ := repL1 rep
    obtain ⟨a, us, rfl, ha, ra⟩ := rep_lst gh h1 (lookAt_same ga) fun a z => lookAt_in z
    exact ⟨_, us.length, rfl, .inl ⟨us, SqL.of ha, rfl⟩, by rw [← ra.len]; exact k _ H G [] (vpost_same gh (.int _ _))⟩
  · cases e
    obtain ⟨v, rfl, h1⟩ := repL1 rep
    obtain ⟨a, us, rfl, ha, ra⟩ := rep_tup h1
    exact ⟨_, us.length, rfl, .inr ⟨us, ha, rfl⟩, by rw [← ra.len]; exact k _ H G [] (vpost_same gh (.int _ _))⟩
  · cases e
    obtain ⟨v, rfl, h1⟩ := repL1 rep
    cases h1 with
    | scr hs => exact ⟨_, _, rfl, .inl ⟨_, gh.seq hs, rfl⟩, by rw [List.length_map]; exact k _ H G [] (vpost_same gh (.int _ _))⟩
  · split at e
    case isFalse => cases e
    rename_i hl
    cases e
    obtain ⟨v, rfl, h1⟩ := repL1 rep
    obtain ⟨rfl, rfl⟩ := rep_str h1
    exact ⟨_, _, rfl, ⟨of_ok hl, rfl⟩, k _ H G [] (vpost_same gh (.int _ _))⟩
  · cases e
def rAbs : RV := fun xs H Q => ∃ i, xs = [.int i] ∧ Q (.int (if i < 0 then -i else i)) H
theorem vop_abs : VOp W rAbs opAbs := by
  intro H G rs vs A r Q gh rep nd ga e k
  unfold opAbs at e
  split at e
  · cases e
    obtain ⟨v, rfl, h1⟩ := repL1 rep
    obtain ⟨rfl, rfl⟩ := rep_int h1
    exact ⟨_, rfl, k _ H G [] (vpost_same gh (.int _ _))⟩
  · cases e
def rMax2 : RV := fun xs H Q => ∃ i j, xs = [.int i, .int j] ∧ Q (.int (if j > i then j else i)) H
def rMin2 : RV := fun xs H Q => ∃ i j, xs = [.int i, .int j] ∧ Q (.int (if j < i then j else i)) H
theorem vop_max2 : VOp W rMax2 opMax2 := by
  intro H G rs vs A r Q gh rep nd ga e k
  unfold opMax2 at e
  split at e
  · cases e
    obtain ⟨v, u, A1, A2, rfl, rfl, r1, r2⟩ := repL2 rep
    obtain ⟨rfl, rfl⟩ := rep_int r1
    obtain ⟨rfl, rfl⟩ := rep_int r2
    exact ⟨_, _, rfl, k _ H G [] (vpost_same gh (.int _ _))⟩
  · cases e
theorem vop_min2 : VOp W rMin2 opMin2 := by
  intro H G rs vs A r Q gh rep nd ga e k
  unfold opMin2 at e
  split at e
  · cases e
    obtain ⟨v, u, A1, A2, rfl, rfl, r1, r2⟩ := repL2 rep
    obtain ⟨rfl, rfl⟩ := rep_int r1
    obtain ⟨rfl, rfl⟩ := rep_int r2
    exact ⟨_, _, rfl, k _ H G [] (vpost_same gh (.int _ _))⟩
  · cases e
def rListOf (K : PySem.W.Frag) : RV := fun xs H Q => ∃ p ys, xs = [.ref p] ∧ (SqL K H p ys ∨ SqT K H p ys) ∧ ∀ l, H l = none → Q (.ref l) (upd H l (.lst ys))
theorem vop_list : VOp W (rListOf W.K) opList := by
  intro H G rs vs A r Q gh rep nd ga e k
  unfold opList at e
  split at e
  · cases e
    obtain ⟨v, rfl, h1⟩ := repL1 rep
    obtain ⟨a, us, rfl, ha, ra⟩ := rep_lst gh h1 (lookAt_same ga) fun a z => lookAt_in z
    refine ⟨a, us, rfl, .inl (SqL.of ha), fun p hp => ?_⟩
    obtain ⟨G', q⟩ := vpost_new gh ga hp ra
    exact k _ _ _ _ q
  · cases e
    obtain ⟨v, rfl, h1⟩ := repL1 rep
    obtain ⟨a, us, rfl, ha, ra⟩ := rep_tup h1
    refine ⟨a, us, rfl, .inr ha, fun p hp => ?_⟩
    obtain ⟨G', q⟩ := vpost_new gh ga hp (ra.froze (lookAt_same ga) fun a z => lookAt_in z)
    exact k _ _ _ _ q
  · cases e
end
end Tr
namespace Tr
open PySem L2 RZ
section
variable {W : Wd} {ρ ρ' ρ1 ρ2 : Env} {σ σ' : L2.St} {H F G H' F' G' : Hp} {As As' As1 : Nat → List Addr} {B : List Addr}
/-- behind its expression everything at hand is looked at -/
theorem Post.look (p : Post W ρ σ H F G As ρ1 H' G' As1) (S : Sta W ρ σ H F G As) (t : Tmp W σ H' G' As1 B) (org : ∀ b ∈ B, H b = none ∨ ∃ i, b ∈ As i) : Post W ρ σ H F G As ρ1 H' (lookAt G' H' B) As1 := by
  have gs := lookAt_same (H := H') t.g
  refine ⟨⟨p.st.len, p.st.slot, fun i s e l a ha => ?_, fun i s e l a ha => ?_, p.st.none, p.st.nd, p.st.dj, p.st.fo, fun a o e => gs a o (p.st.fg a o e), lookAt_sub p.st.gh⟩, p.keep, p.dom, p.gg.trans gs, fun a e n => ?_, p.an, p.ul, p.lk, p.nw⟩
  · rw [lookAt_out fun z => t.a a z i ha]
    exact p.st.lock i s e l a ha
  · rw [lookAt_out fun z => t.a a z i ha]
    exact p.st.free i s e l a ha
  · by_cases z : a ∈ B
    · exact org a z
    · rw [lookAt_out z] at n
      exact p.gn a e n
theorem reps_at {ds : List D} {vs : List V} (r : Reps W H G .F ds vs []) {i : Nat} {d : D} (h : ds[i]? = some d) : ∃ v, vs[i]? = some v ∧ Rep W H G .F d v [] := reps_get r rfl h
theorem lst_iter {a : Addr} {vs : List V} {ds : List D} (h : G a = some (.lst vs)) (r : Reps W H G .F ds vs []) : IterOk W (Itl W.K a) G H ds := by
  have el := r.len
  refine ⟨fun H1 i L hi => ?_, fun H1 L => ⟨vs, SqL.of (L.g _ _ h), by lia⟩, fun H1 i x H2 d L hd y => ?_⟩
  · obtain ⟨v, hv, _⟩ := reps_at r (d := ds[i]) (List.getElem?_eq_getElem hi)
    exact ⟨vs, v, SqL.of (L.g _ _ h), hv⟩
  · obtain ⟨v, hv, rv⟩ := reps_at r hd
    obtain ⟨rfl, y⟩ := y
    have e := y vs (SqL.of (L.g _ _ h))
    rw [hv] at e
    cases e
    exact ⟨fun _ _ e => e, rv.mono L.t (Same.refl _) fun _ z => nomatch z⟩
theorem tup_iter {a : Addr} {vs : List V} {ds : List D} (h : SqT W.K H a vs) (r : Reps W H G .F ds vs []) : IterOk W (Itt W.K a) G H ds := by
  have el := r.len
  refine ⟨fun H1 i L hi => ?_, fun H1 L => ⟨vs, L.t _ _ h, by lia⟩, fun H1 i x H2 d L hd y => ?_⟩
  · obtain ⟨v, hv, _⟩ := reps_at r (d := ds[i]) (List.getElem?_eq_getElem hi)
    exact ⟨vs, v, L.t _ _ h, hv⟩
  · obtain ⟨v, hv, rv⟩ := reps_at r hd
    obtain ⟨rfl, y⟩ := y
    have e := y vs (L.t _ _ h)
    rw [hv] at e
    cases e
    exact ⟨fun _ _ e => e, rv.mono L.t (Same.refl _) fun _ z => nomatch z⟩
theorem lst_look2 {m : Mode} {xs : List D} {a : Addr} {vs : List V} {A B : List Addr} (gh : Same G H) (rep : Rep W H G m (.lst xs) (.ref a) A) (ha : H a = some (.lst vs)) (hB : ∀ c ∈ A, c ∈ B) : lookAt G H B a = some (.lst vs) := by
  by_cases z : a ∈ B
  · rw [lookAt_in z]; exact ha
  · rw [lookAt_out z]
    cases rep with
    | lstF h r =>
      have e := gh _ _ h
      rw [ha] at e
      rw [h, e]
    | lstS h r => exact absurd (hB a (by simp)) z
    | lstO h r => exact absurd (hB a (by simp)) z
theorem lst_look {m : Mode} {xs : List D} {a : Addr} {vs : List V} {A : List Addr} (gh : Same G H) (rep : Rep W H G m (.lst xs) (.ref a) A) (ha : H a = some (.lst vs)) : lookAt G H A a = some (.lst vs) := lst_look2 gh rep ha fun _ z => z
def iSeq (K : PySem.W.Frag) (tl : TE) : TI := fun σ H R => tl σ H fun x H1 => ∃ a, x = .ref a ∧ (((∃ xs, SqL K H1 a xs) ∧ R (Itl K a) H1) ∨ ((∃ xs, SqT K H1 a xs) ∧ R (Itt K a) H1))
theorem pi_seq {X : Cx} {tg l : Expr} {tl : TE} (hl : PE X l tl) : PI X tg l (iSeq X.K tl) := by
  refine ⟨fun pins s σ H R I h => ?_⟩
  refine thn (hl.run pins s σ H _ I h) fun v s1 ⟨x, H1, I1, r1, q1⟩ => ?_
  obtain ⟨a, e, q⟩ := q1
  subst e
  cases r1
  rcases q with ⟨⟨xs, hq⟩, q⟩ | ⟨⟨xs, hq⟩, q⟩
  · obtain ⟨its, rv, p, hz⟩ := I1.list hq
    refine wpAny_pyIter_list p.isList ?_
    refine ⟨s1.heap.objs.size, [s1.heap.objs.size], _, _, H1, rfl, I1.kept (t' := s1.toks) fun b o e => Heap.get?_push_of_some _ e, turn_list a _, ⟨_, Heap.get?_push_size _ rfl, rfl, rfl⟩, fun b hb => ?_, q⟩
    have e : b = s1.heap.objs.size := by simpa using hb
    subst e
    exact I1.fpOk (Nat.le_refl _) (I1.hok.fresh (Nat.le_refl _))
  · obtain ⟨its, rv, p, hz⟩ := I1.tuple hq
    refine wpAny_pyIter_tuple (show s1.heap.IsTuple a its.toArray from p) ?_
    refine ⟨s1.heap.objs.size, [s1.heap.objs.size], _, _, H1, rfl, I1.kept (t' := s1.toks) fun b o e => Heap.get?_push_of_some _ e, turn_tuple a _, ⟨_, Heap.get?_push_size _ rfl, rfl, rfl⟩, fun b hb => ?_, q⟩
    have e : b = s1.heap.objs.size := by simpa using hb
    subst e
    exact I1.fpOk (Nat.le_refl _) (I1.hok.fresh (Nat.le_refl _))
theorem sim_isq {te : TE} {f : SE} (h : SimE W te f) : SimI W (iSeq W.K te) (iSq f) := by
  intro ρ σ H F G As ds ρ' R S e k
  unfold iSq at e
  split at e
  case h_2 => cases e
  rename_i r ρ1 e1
  obtain ⟨m, d⟩ := r
  split at e
  case h_3 => cases e
  · rename_i ds1 e2
    cases e
    simp only at e2
    subst e2
    refine h ρ σ H F G As _ _ _ S e1 fun v H1 G1 As1 B p rep t org => ?_
    obtain ⟨a, vs, rfl, ha, ra⟩ := rep_lst p.st.gh rep (lookAt_same t.g) fun a z => lookAt_in z
    exact ⟨a, rfl, .inl ⟨⟨vs, SqL.of ha⟩, k _ H1 _ As1 (p.look S t org) (lst_iter (lst_look p.st.gh rep ha) ra)⟩⟩
  · rename_i ds1 e2
    cases e
    simp only at e2
    subst e2
    refine h ρ σ H F G As _ _ _ S e1 fun v H1 G1 As1 B p rep t org => ?_
    obtain ⟨a, vs, rfl, ha, ra⟩ := rep_tup rep
    exact ⟨a, rfl, .inr ⟨⟨vs, ha⟩, k _ H1 _ As1 (p.look S t org) (tup_iter ha (ra.froze (lookAt_same t.g) fun a z => lookAt_in z))⟩⟩
theorem enumL_len : ∀ (n : Nat) (ds : List D), (enumL n ds).length = ds.length
  | _, [] => rfl
  | n, d :: ds => by rw [enumL, List.length_cons, List.length_cons, enumL_len]
theorem enumL_get : ∀ (n : Nat) (ds : List D) (i : Nat), (enumL n ds)[i]? = (ds[i]?).map fun d => .tup [.int ((n + i : Nat) : Int), d]
  | _, [], i => by simp [enumL]
  | n, d :: ds, 0 => by simp [enumL]
  | n, d :: ds, i + 1 => by
    rw [enumL, List.getElem?_cons_succ, List.getElem?_cons_succ, enumL_get]
    have e : n + 1 + i = n + (i + 1) := by lia
    rw [e]
theorem pair_rep {T : Addr} {x y : V} {d e : D} (hT : H T = none) (h1 : Rep W H G .F d x []) (h2 : Rep W H G .F e y []) : Rep W (upd H T (.tup [x, y])) G .F (.tup [d, e]) (.ref T) [] := by
  have kp := upd_keep (u := .tup [x, y]) hT
  have T' := seqT_keep (W := W) kp
  refine .tup (SqT.of upd_same) ?_
  exact .cons (A := []) (B := []) (h1.mono T' (Same.refl _) fun _ z => nomatch z) (.cons (A := []) (B := []) (h2.mono T' (Same.refl _) fun _ z => nomatch z) (.nil _))
theorem sim_ienu {ta : TA} {fs : SA} (h : SimA W ta fs) : SimI W (iEnum W.K ta) (iEnu fs) := by
  intro ρ σ H F G As ds ρ' R S e k
  unfold iEnu at e
  split at e
  case h_2 => cases e
  rename_i r ρ1 e1
  split at e
  case h_2 => cases e
  rename_i ds1 e2
  cases e
  obtain ⟨m, d⟩ := r
  subst e2
  refine h ρ σ H F G As _ _ _ S e1 fun vs H1 G1 As1 B p rep t org => ?_
  obtain ⟨v, rfl, rep1⟩ := repL1 rep
  obtain ⟨a, vs, rfl, ha, ra⟩ := rep_lst p.st.gh rep1 (lookAt_same t.g) fun a z => lookAt_in z
  have hg : lookAt G1 H1 B a = some (.lst vs) := lst_look p.st.gh rep1 ha
  refine ⟨a, vs, rfl, SqL.of ha, k _ H1 _ As1 (p.look S t org) ?_⟩
  have el := ra.len
  refine ⟨fun H2 i L hi => ?_, fun H2 L => ⟨vs, SqL.of (L.g _ _ hg), by rw [enumL_len]; lia⟩, fun H2 i x H3 d L hd y => ?_⟩
  · rw [enumL_len] at hi
    obtain ⟨v, hv, _⟩ := reps_at ra (d := ds1[i]) (List.getElem?_eq_getElem hi)
    exact ⟨vs, v, SqL.of (L.g _ _ hg), hv⟩
  · rw [enumL_get] at hd
    cases e3 : ds1[i]? with
    | none => rw [e3] at hd; cases hd
    | some d1 =>
      rw [e3] at hd
      cases hd
      obtain ⟨v, hv, rv⟩ := reps_at ra e3
      obtain ⟨T, x1, rfl, hT, rfl, y⟩ := y
      have e := y vs (SqL.of (L.g _ _ hg))
      rw [hv] at e
      cases e
      refine ⟨upd_keep hT, ?_⟩
      rw [Nat.zero_add]
      exact pair_rep hT (.int _ _) (rv.mono L.t (Same.refl _) fun _ z => nomatch z)
theorem rng_iter {J : It} {ds : List D} (f : Nat → Int) (n : Nat) (hd : ds = (List.range n).map fun (k : Nat) => D.int (f k)) (h1 : ∀ H i, i < n → J.go i H) (h2 : ∀ H, J.stop n H) (h3 : ∀ H i x H', J.yld i H x H' → H' = H ∧ x = .int (f i)) : IterOk W J G H ds := by
  subst hd
  refine ⟨fun H1 i L hi => h1 H1 i (by simpa using hi), fun H1 L => by simpa using h2 H1, fun H1 i x H2 d L hd y => ?_⟩
  obtain ⟨rfl, rfl⟩ := h3 _ _ _ _ y
  have hi := lt_of_get hd
  rw [List.length_map, List.length_range] at hi
  rw [List.getElem?_map, List.getElem?_range hi] at hd
  cases hd
  exact ⟨fun _ _ e => e, .int _ _⟩
theorem sim_rng1 {ta : TA} {fs : SA} (h : SimA W ta fs) : SimI W (iRng1 ta) (iRange1 fs) := by
  intro ρ σ H F G As ds ρ' R S e k
  unfold iRange1 at e
  split at e
  case h_2 => cases e
  rename_i m j ρ1 e1
  split at e
  case isFalse => cases e
  rename_i hs
  cases e
  unfold small at hs
  replace hs := of_ok hs
  refine h ρ σ H F G As _ _ _ S e1 fun vs H1 G1 As1 B p rep t org => ?_
  obtain ⟨v, rfl, rep1⟩ := repL1 rep
  obtain ⟨rfl, rfl⟩ := rep_int rep1
  exact ⟨j, rfl, hs.1, hs.2, k _ H1 _ As1 p (rng_iter (fun k => 0 + (k : Int)) j.toNat rfl (fun _ _ h => h) (fun _ => Nat.le_refl _) fun _ _ _ _ y => y)⟩
theorem sim_rng2 {ta : TA} {fs : SA} (h : SimA W ta fs) : SimI W (iRng2 ta) (iRange2 fs) := by
  intro ρ σ H F G As ds ρ' R S e k
  unfold iRange2 at e
  split at e
  case h_2 => cases e
  rename_i m i m2 j ρ1 e1
  split at e
  case isFalse => cases e
  rename_i hs
  cases e
  unfold small at hs
  rw [Bool.and_eq_true] at hs
  replace hs := And.intro (of_ok hs.1) (of_ok hs.2)
  refine h ρ σ H F G As _ _ _ S e1 fun vs H1 G1 As1 B p rep t org => ?_
  obtain ⟨v, u, A1, A2, rfl, rfl, r1, r2⟩ := repL2 rep
  obtain ⟨rfl, rfl⟩ := rep_int r1
  obtain ⟨rfl, rfl⟩ := rep_int r2
  exact ⟨i, j, rfl, ⟨hs.1.1, hs.1.2, hs.2.1, hs.2.2⟩, k _ H1 _ As1 p (rng_iter (fun k => i + (k : Int)) (j - i).toNat rfl (fun _ _ h => h) (fun _ => Nat.le_refl _) fun _ _ _ _ y => y)⟩
theorem rangeSize_nn (i j c : Int) : 0 ≤ Builtin.Range.rangeSize i j c := by
  unfold Builtin.Range.rangeSize
  split
  · rename_i hc
    split
    · have : 0 ≤ (j - i - 1) / c := Int.ediv_nonneg (by lia) (by lia)
      lia
    · exact Int.le_refl 0
  · rename_i hc
    split
    · by_cases h : c = 0
      · subst h; simp
      · have : 0 ≤ (i - j - 1) / (-c) := Int.ediv_nonneg (by lia) (by lia)
        lia
    · exact Int.le_refl 0
theorem sim_rng3 {ta : TA} {fs : SA} (h : SimA W ta fs) : SimI W (iRng3 ta) (iRange3 fs) := by
  intro ρ σ H F G As ds ρ' R S e k
  unfold iRange3 at e
  split at e
  case h_2 => cases e
  rename_i m1 i m2 j m3 c ρ1 e1
  split at e
  case isFalse => cases e
  rename_i hs
  cases e
  refine h ρ σ H F G As _ _ _ S e1 fun vs H1 G1 As1 B p rep t org => ?_
  cases rep with
  | cons r1 rep =>
    obtain ⟨u, w, A1, A2, rfl, rfl, r2, r3⟩ := repL2 rep
    obtain ⟨rfl, rfl⟩ := rep_int r1
    obtain ⟨rfl, rfl⟩ := rep_int r2
    obtain ⟨rfl, rfl⟩ := rep_int r3
    replace hs := of_ok hs
    exact ⟨i, j, c, _, rfl, ⟨hs.1, hs.2.1, hs.2.2, (Int.toNat_of_nonneg (rangeSize_nn i j c)).symm⟩, k _ H1 _ As1 p (rng_iter (fun k => i + (k : Int) * c) _ rfl (fun _ _ h => h) (fun _ => Nat.le_refl _) fun _ _ _ _ y => y)⟩
end
end Tr
namespace Tr
open PySem L2
section
variable {W : Wd} {ρ ρ' ρ1 ρ2 : Env} {σ σ' σ1 σ2 : L2.St} {H F G H' F' G' H1 F1 G1 : Hp} {As As' As1 : Nat → List Addr} {B : List Addr}
theorem wipe_in {σ : L2.St} {i : Nat} : ∀ {vs : List Nat}, i ∈ vs → (wipe σ vs)[i]? = if i < σ.length then some none else none
  | [], h => nomatch h
  | v :: vs, h => by
    unfold wipe
    rw [get_set, wipe_length]
    by_cases e : i = v
    · subst e
      by_cases q : i < σ.length
      · rw [if_pos ⟨rfl, q⟩, if_pos q]
      · rw [if_neg (fun z => q z.2), if_neg q]
        exact List.getElem?_eq_none (by rw [wipe_length]; omega)
    · rw [if_neg (fun z => e z.1)]
      exact wipe_in ((List.mem_cons.mp h).resolve_left e)
theorem wipe_eq {σ σ' : L2.St} {vs : List Nat} (hl : σ'.length = σ.length) (h : ∀ j, j ∉ vs → σ'[j]? = σ[j]?) : wipe σ' vs = wipe σ vs := by
  apply List.ext_getElem?
  intro i
  by_cases q : i ∈ vs
  · rw [wipe_in q, wipe_in q, hl]
  · rw [wipe_out q, wipe_out q, h i q]
theorem wipe_wipe {σ : L2.St} {vs : List Nat} : wipe (wipe σ vs) vs = wipe σ vs :=
  wipe_eq (wipe_length _ _) fun j hj => wipe_out hj
theorem hide_get (ls es vs : List Nat) (ρ : Env) (i : Nat) : (hide ls es vs ρ)[i]? = (ρ[i]?).map fun s => if vs.contains i then none else if es.contains i then s else if ls.contains i then view1 s else none := by
  unfold hide
  rw [List.getElem?_mapIdx]
theorem wipeE_get (vs : List Nat) (ρ : Env) (i : Nat) : (wipeE vs ρ)[i]? = (ρ[i]?).map fun s => if vs.contains i then none else s := by
  unfold wipeE
  rw [List.getElem?_mapIdx]
theorem unhide_get (ls es vs : List Nat) (ρ ρb : Env) (i : Nat) : (unhide ls es vs ρ ρb)[i]? = (ρ[i]?).map fun s => if vs.contains i then s else if es.contains i then (ρb[i]?).getD none else if ls.contains i then lock1 s else s := by
  unfold unhide
  rw [List.getElem?_mapIdx]
theorem esOk_get {es vs : List Nat} {i : Nat} (h : esOk es vs ρ = true) (hi : i ∈ es) (hv : i ∉ vs) : ∃ s : Slot, ρ[i]? = some (some s) ∧ s.m = .O ∧ s.lk = false := by
  unfold esOk at h
  have q := List.all_eq_true.mp h i hi
  have hv' : vs.contains i = false := by simpa using hv
  rw [hv', Bool.false_or] at q
  split at q
  · rename_i s e
    rw [Bool.and_eq_true] at q
    exact ⟨s, e, of_decide_eq_true q.1, by simpa using q.2⟩
  · cases q
/-- the slots that are looked at within -/
def Lx (ls es vs : List Nat) (i : Nat) : Prop := i ∉ vs ∧ i ∉ es ∧ i ∈ ls
open Classical in
noncomputable def blkG (ls es vs : List Nat) (G H : Hp) (As : Nat → List Addr) : Hp := fun a => if ∃ i, Lx ls es vs i ∧ a ∈ As i then H a else G a
def blkA (es vs : List Nat) (As : Nat → List Addr) : Nat → List Addr := fun i => if !vs.contains i && es.contains i then As i else []
theorem blkA_sub {es vs : List Nat} {i : Nat} {a : Addr} (h : a ∈ blkA es vs As i) : i ∉ vs ∧ i ∈ es ∧ a ∈ As i := by
  unfold blkA at h
  split at h
  · rename_i q
    rw [Bool.and_eq_true] at q
    exact ⟨by simpa using q.1, by simpa using q.2, h⟩
  · cases h
theorem blkA_eq {es vs : List Nat} {i : Nat} (h1 : i ∉ vs) (h2 : i ∈ es) : blkA es vs As i = As i := by
  unfold blkA
  rw [if_pos]
  simp [h1, h2]
theorem blkG_in {ls es vs : List Nat} {a : Addr} {i : Nat} (h : Lx ls es vs i) (ha : a ∈ As i) : blkG ls es vs G H As a = H a := if_pos ⟨i, h, ha⟩
theorem blkG_out {ls es vs : List Nat} {a : Addr} (h : ∀ i, Lx ls es vs i → a ∉ As i) : blkG ls es vs G H As a = G a := if_neg fun ⟨i, h1, h2⟩ => h i h1 h2
theorem hide_sta {ls es vs : List Nat} (S : Sta W ρ σ H F G As) (ok : esOk es vs ρ = true) :
    Sta W (hide ls es vs ρ) (wipe σ vs) H (blkG ls es vs G H As) (blkG ls es vs G H As) (blkA es vs As) ∧ NoLk (hide ls es vs ρ) ∧ Same G (blkG ls es vs G H As) := by
  have gs : Same G (blkG ls es vs G H As) := fun a o e => by
    by_cases z : ∃ i, Lx ls es vs i ∧ a ∈ As i
    · obtain ⟨i, h1, h2⟩ := z
      rw [blkG_in h1 h2]
      exact S.gh a o e
    · rw [blkG_out fun i h1 h2 => z ⟨i, h1, h2⟩]
      exact e
  have gh : Same (blkG ls es vs G H As) H := fun a o e => by
    by_cases z : ∃ i, Lx ls es vs i ∧ a ∈ As i
    · obtain ⟨i, h1, h2⟩ := z
      rw [blkG_in h1 h2] at e
      exact e
    · rw [blkG_out fun i h1 h2 => z ⟨i, h1, h2⟩] at e
      exact S.gh a o e
  have get : ∀ (i : Nat) (s : Slot), (hide ls es vs ρ)[i]? = some (some s) → i ∉ vs ∧ ((i ∈ es ∧ ρ[i]? = some (some s)) ∨ (i ∉ es ∧ i ∈ ls ∧ ∃ t, ρ[i]? = some (some t) ∧ s = par t.d)) := fun i s h => by
    rw [hide_get] at h
    cases e : ρ[i]? with
    | none => rw [e] at h; cases h
    | some x =>
      rw [e] at h
      simp only [Option.map_some, Option.some.injEq] at h
      by_cases hv : i ∈ vs
      · simp [hv] at h
      by_cases he : i ∈ es
      · simp [hv, he] at h
        subst h
        exact ⟨hv, .inl ⟨he, rfl⟩⟩
      by_cases hl : i ∈ ls
      · simp [hv, he, hl] at h
        cases x with
        | none => cases h
        | some t =>
          simp [view1] at h
          exact ⟨hv, .inr ⟨he, hl, t, rfl, h.symm⟩⟩
      · simp [hv, he, hl] at h
  have nl : NoLk (hide ls es vs ρ) := fun i s h => by
    obtain ⟨hv, ⟨he, e⟩ | ⟨_, _, t, e, rfl⟩⟩ := get i s h
    · obtain ⟨s', e', _, l⟩ := esOk_get ok he hv
      rw [e] at e'
      cases e'
      exact l
    · rfl
  have fr : ∀ i a, a ∈ blkA es vs As i → blkG ls es vs G H As a = none := fun i a ha => by
    obtain ⟨hv, he, ha⟩ := blkA_sub ha
    obtain ⟨s, e, _, l⟩ := esOk_get ok he hv
    rw [blkG_out fun j hj hja => hj.2.1 (S.dj i j a ha hja ▸ he)]
    exact S.free i s e l a ha
  refine ⟨⟨by unfold hide; rw [List.length_mapIdx, wipe_length]; exact S.len, fun i s h => ?_, fun i s h l => ?_, fun i s h l a ha => fr i a ha, fun i h => ?_, fun i => ?_, fun i j a h1 h2 => S.dj i j a (blkA_sub h1).2.2 (blkA_sub h2).2.2, fr, Same.refl _, gh⟩, nl, gs⟩
  · obtain ⟨hv, ⟨he, e⟩ | ⟨he, hl, t, e, rfl⟩⟩ := get i s h
    · obtain ⟨v, h1, r⟩ := S.slot i s e
      refine ⟨v, by rw [wipe_out hv]; exact h1, ?_⟩
      rw [blkA_eq hv he]
      exact r.mono (fun _ _ z => z) (fun a o e => gs a o (S.fg a o e)) fun _ _ _ z => z
    · obtain ⟨v, h1, r⟩ := S.slot i t e
      refine ⟨v, by rw [wipe_out hv]; exact h1, ?_⟩
      have ea : blkA es vs As i = [] := by
        unfold blkA
        rw [if_neg]
        simp [he]
      rw [ea]
      exact rep_par (r.froze (fun a o e => gs a o (S.fg a o e)) fun a ha => blkG_in ⟨hv, he, hl⟩ ha)
  · rw [nl i s h] at l
    cases l
  · unfold blkA
    split
    · rename_i q
      rw [Bool.and_eq_true] at q
      have hv : i ∉ vs := by simpa using q.1
      have he : i ∈ es := by simpa using q.2
      obtain ⟨s, e, _, _⟩ := esOk_get ok he hv
      refine absurd ?_ (h s)
      rw [hide_get, e]
      simp [hv, he]
    · rfl
  · unfold blkA
    split
    · exact S.nd i
    · exact List.nodup_nil
theorem Step.tmp (p : Step W [] ρ σ H F As ρ' σ' H' F' As') {B : List Addr} (t : Tmp W σ H F As B) :
    Tmp W σ' H' F' As' B ∧ (∀ b ∈ B, ∀ o, H b = some o → H' b = some o) := by
  have k : ∀ b ∈ B, ∀ o, H b = some o → H' b = some o := fun b hb o e => p.keep b o e (fun i z => t.a b hb i z) fun z => nomatch z
  refine ⟨⟨t.nd, fun b hb => ?_, fun b hb e => t.h b hb (p.dom b e), fun b hb i z => ?_⟩, k⟩
  · cases z : F' b with
    | none => rfl
    | some o =>
      rcases p.fn b (t.g b hb) (by rw [z]; exact fun q => nomatch q) with y | ⟨i, y⟩ | y
      · exact absurd y (t.h b hb)
      · exact absurd y (t.a b hb i)
      · cases y
  · rcases p.an i b z with y | ⟨j, y⟩ | y
    · exact t.h b hb y
    · exact t.a b hb j y
    · cases y
theorem wipe_step {vs : List Nat} (hpv : ∀ i ∈ vs, W.pin i = false) (S : Sta W ρ σ H F F As) (n : NoLk ρ) (hw : wipe σ vs = σ') : ∃ As', Step W [] ρ σ H F As (wipeE vs ρ) σ' H F As' ∧ ∀ i a, a ∈ As' i → a ∈ As i := by
  subst hw
  have get : ∀ (i : Nat) (s : Slot), (wipeE vs ρ)[i]? = some (some s) → i ∉ vs ∧ ρ[i]? = some (some s) := fun i s h => by
    rw [wipeE_get] at h
    cases e : ρ[i]? with
    | none => rw [e] at h; cases h
    | some x =>
      rw [e] at h
      by_cases hv : i ∈ vs
      · simp [hv] at h
      · simp [hv] at h
        exact ⟨hv, by rw [h]⟩
  let As2 : Nat → List Addr := fun i => if vs.contains i then [] else As i
  have sub : ∀ i a, a ∈ As2 i → i ∉ vs ∧ a ∈ As i := fun i a h => by
    by_cases hv : i ∈ vs
    · have e : As2 i = [] := if_pos (by simpa using hv)
      rw [e] at h; cases h
    · have e : As2 i = As i := if_neg (by simpa using hv)
      rw [e] at h
      exact ⟨hv, h⟩
  have eq : ∀ i, i ∉ vs → As2 i = As i := fun i hv => if_neg (by simpa using hv)
  refine ⟨As2, ⟨⟨by unfold wipeE; rw [List.length_mapIdx, wipe_length]; exact S.len, fun i s h => ?_, fun i s h l => ?_, fun i s h l a ha => S.fo i a (sub i a ha).2, fun i h => ?_, fun i => ?_, fun i j a h1 h2 => S.dj i j a (sub i a h1).2 (sub j a h2).2, fun i a h => S.fo i a (sub i a h).2, Same.refl _, S.gh⟩, fun i s h => n i s (get i s h).2, fun _ _ e _ _ => e, fun _ e => e, Same.refl _, fun _ e q => absurd e q, fun i a h => .inr (.inl ⟨i, (sub i a h).2⟩), fun _ _ h => h, wipe_length _ _, fun i h => wipe_out fun z => by rw [hpv i z] at h; cases h⟩, fun i a h => (sub i a h).2⟩
  · obtain ⟨hv, e⟩ := get i s h
    obtain ⟨v, h1, r⟩ := S.slot i s e
    rw [eq i hv]
    exact ⟨v, by rw [wipe_out hv]; exact h1, r⟩
  · obtain ⟨hv, e⟩ := get i s h
    rw [n i s e] at l
    cases l
  · by_cases hv : i ∈ vs
    · exact if_pos (by simpa using hv)
    · rw [eq i hv]
      refine S.none i fun s z => h s ?_
      rw [wipeE_get, z]
      simp [hv]
  · by_cases hv : i ∈ vs
    · have e : As2 i = [] := if_pos (by simpa using hv)
      rw [e]; exact List.nodup_nil
    · rw [eq i hv]; exact S.nd i
/-- the new list grows; H0: ahead of it -/
theorem Step.updD {H0 F0 : Hp} {As0 : Nat → List Addr} {ρ0 : Env} {σ0 : L2.St} {D : Addr} {acc acc2 : List V} (p : Step W [] ρ0 σ0 H0 F0 As0 ρ σ H F As) (h0 : H0 D = none) (hD : H D = some (.lst acc)) (hA : ∀ i, D ∉ As i) (hF : F D = none) :
    Step W [] ρ0 σ0 H0 F0 As0 ρ σ (upd H D (.lst acc2)) F As := by
  have T : ∀ a vs, SqT W.K H a vs → SqT W.K (upd H D (.lst acc2)) a vs := fun a vs h => by
    have ne : ∀ o, H a = some o → ¬ Mutb o → a ≠ D := fun o e nm z => by
      rw [z, hD] at e
      cases e
      exact nm trivial
    rcases h with (h | ⟨o, h⟩) | h
    · exact .inl (.inl (by rw [upd_ne (ne _ h fun z => z)]; exact h))
    · exact .inl (.inr ⟨o, by rw [upd_ne (ne _ h fun z => z)]; exact h⟩)
    · exact .inr h
  refine ⟨⟨p.st.len, fun i s h => ?_, fun i s h l => ?_, p.st.free, p.st.none, p.st.nd, p.st.dj, p.st.fo, Same.refl _, fun a o e => ?_⟩, p.nl, fun a o e n _ => ?_, fun a e => ?_, p.ff, p.fn, p.an, fun a vs h => T a vs (p.tp a vs h), p.ln, p.pn⟩
  · obtain ⟨v, h1, r⟩ := p.st.slot i s h
    refine ⟨v, h1, r.mono T (Same.refl _) fun a ha o e => ?_⟩
    rw [upd_ne (fun (z : a = D) => hA i (z ▸ ha))]
    exact e
  · rw [p.nl i s h] at l
    cases l
  · rw [upd_ne fun z => by rw [z, hF] at e; cases e]
    exact p.st.gh a o e
  · rw [upd_ne fun z => by rw [z, h0] at e; cases e]
    exact p.keep a o e n fun z => nomatch z
  · by_cases z : a = D
    · rw [z, upd_same] at e
      cases e
    · rw [upd_ne z] at e
      exact p.dom a e
theorem repL_append : ∀ {rs ss : List Val} {vs us : List V} {A B : List Addr}, RepL W H G rs vs A → RepL W H G ss us B → RepL W H G (rs ++ ss) (vs ++ us) (A ++ B)
  | _, _, _, _, _, _, .nil, q => q
  | _, _, _, _, _, _, .cons h r, q => by
    rw [List.append_assoc]
    exact .cons h (repL_append r q)
theorem sim_yes : SimT W tYes sYes := by
  intro ρ σ H F G As b ρ' Q S e k
  cases e
  exact k H As (Post.refl S) fun n => n
/-- what is there at each turn of a comprehension -/
structure Blk (W : Wd) (vs : List Nat) (D : Addr) (ρ0 : Env) (σ : L2.St) (H0 F0 : Hp) (As0 : Nat → List Addr) (ρ : Env) (H F : Hp) (As : Nat → List Addr) (rs : List Val) (B : List Addr) : Prop where
  s : Step W [] ρ0 (wipe σ vs) H0 F0 As0 ρ (wipe σ vs) H F As
  d : ∃ acc, H D = some (.lst acc) ∧ RepL W H F rs acc B
  t : Tmp W (wipe σ vs) H F As (D :: B)
  o : ∀ b ∈ B, H0 b = none ∨ ∃ j, b ∈ As0 j
theorem lc_end {ls es vs : List Nat} {D : Addr} {rs : List Val} {Fb : Hp} {Asb : Nat → List Addr} {Q : VK} (S : Sta W ρ σ H F G As) (p : Post W ρ σ H F G As ρ1 H1 G1 As1) (ok1 : esOk es vs ρ1 = true) (ok2 : esOk es vs ρ2 = true)
    (g1 : Same G1 (blkG ls es vs G1 H1 As1)) (hD : H1 D = none) (bk : Blk W vs D (hide ls es vs ρ1) σ H1 (blkG ls es vs G1 H1 As1) (blkA es vs As1) ρ2 H' Fb Asb rs B)
    (k : ∀ v H' G' As' B, Post W ρ σ H F G As (unhide ls es vs ρ1 ρ2) H' G' As' → Rep W H' G' (if allO rs then (⟨.O, .lst (rs.map fun (x : Val) => x.d)⟩ : Val) else ⟨.S, .lst (rs.map fun (x : Val) => x.d)⟩).m (if allO rs then (⟨.O, .lst (rs.map fun (x : Val) => x.d)⟩ : Val) else ⟨.S, .lst (rs.map fun (x : Val) => x.d)⟩).d v B → Tmp W σ H' G' As' B → (∀ b ∈ B, H b = none ∨ ∃ i, b ∈ As i) → Q v H') : Q (.ref D) H' := by
  obtain ⟨acc, hacc, racc⟩ := bk.d
  have ownA : ∀ i a, a ∈ As1 i → H1 a ≠ none := fun i a h z => by
    obtain ⟨o, eo, _⟩ := p.st.own h
    rw [eo] at z
    cases z
  -- what is owned outside the block's own slots stays
  have out : ∀ i a, a ∈ As1 i → (i ∈ vs ∨ i ∉ es) → (∀ j, a ∉ blkA es vs As1 j) := fun i a h hi j z => by
    obtain ⟨h1, h2, h3⟩ := blkA_sub z
    have e := p.st.dj i j a h h3
    subst e
    rcases hi with hi | hi
    · exact h1 hi
    · exact hi h2
  have kp : ∀ i a o, a ∈ As1 i → (i ∈ vs ∨ i ∉ es) → H1 a = some o → H' a = some o := fun i a o h hi e => bk.s.keep a o e (out i a h hi) fun z => nomatch z
  let As3 : Nat → List Addr := fun i => if !vs.contains i && es.contains i then Asb i else As1 i
  have a3e : ∀ i, i ∉ vs → i ∈ es → As3 i = Asb i := fun i h1 h2 => if_pos (by simp [h1, h2])
  have a3n : ∀ i, (i ∈ vs ∨ i ∉ es) → As3 i = As1 i := fun i h => if_neg (by
    rcases h with h | h
    · simp [h]
    · simp [h])
  have unl : ∀ j a, a ∈ blkA es vs As1 j → Unl ρ1 As1 a := fun j a z => by
    obtain ⟨h1, h2, h3⟩ := blkA_sub z
    obtain ⟨s, e, _, l⟩ := esOk_get ok1 h2 h1
    exact ⟨j, s, e, l, h3⟩
  have get : ∀ (i : Nat) (s : Slot), (unhide ls es vs ρ1 ρ2)[i]? = some (some s) →
      ((i ∈ vs ∨ (i ∉ es ∧ i ∉ ls)) ∧ ρ1[i]? = some (some s)) ∨ (i ∉ vs ∧ i ∈ es ∧ ρ2[i]? = some (some s) ∧ s.m = .O ∧ s.lk = false) ∨ (i ∉ vs ∧ i ∉ es ∧ i ∈ ls ∧ ∃ t, ρ1[i]? = some (some t) ∧ s = if t.m = .F then t else { t with lk := true }) := fun i s h => by
    rw [unhide_get] at h
    cases e : ρ1[i]? with
    | none => rw [e] at h; cases h
    | some x =>
      rw [e] at h
      simp only [Option.map_some, Option.some.injEq] at h
      by_cases hv : i ∈ vs
      · simp [hv] at h
        exact .inl ⟨.inl hv, by rw [h]⟩
      by_cases he : i ∈ es
      · simp [hv, he] at h
        obtain ⟨s2, e2, m2, l2⟩ := esOk_get ok2 he hv
        rw [e2] at h
        cases h
        exact .inr (.inl ⟨hv, he, e2, m2, l2⟩)
      by_cases hl : i ∈ ls
      · simp [hv, he, hl] at h
        cases x with
        | none => cases h
        | some t =>
          simp [lock1] at h
          exact .inr (.inr ⟨hv, he, hl, t, rfl, h.symm⟩)
      · simp [hv, he, hl] at h
        exact .inl ⟨.inr ⟨he, hl⟩, by rw [h]⟩
  have bg : ∀ G', (G' = Fb ∨ G' = lookAt Fb H' B) → Post W ρ1 σ H1 F G1 As1 (unhide ls es vs ρ1 ρ2) H' G' As3 := fun G' hG => by
    have tB : ∀ b ∈ B, b ∈ D :: B := fun b hb => List.mem_cons_of_mem _ hb
    have fG : Same Fb G' := by
      rcases hG with rfl | rfl
      · exact Same.refl _
      · exact lookAt_same fun b hb => bk.t.g b (tB b hb)
    have gh : Same G' H' := by
      rcases hG with rfl | rfl
      · exact bk.s.st.gh
      · exact lookAt_sub bk.s.st.gh
    have inB : ∀ a, Fb a = none → G' a ≠ none → a ∈ B := fun a e n => by
      rcases hG with rfl | rfl
      · exact absurd e n
      · by_cases z : a ∈ B
        · exact z
        · rw [lookAt_out z] at n
          exact absurd e n
    have gg : Same G1 G' := fun a o e => fG a o (bk.s.ff a o (g1 a o e))
    have freeO : ∀ (i : Nat) (s : Slot) a, ρ1[i]? = some (some s) → s.lk = false → (i ∈ vs ∨ (i ∉ es ∧ i ∉ ls)) → a ∈ As1 i → G' a = none := fun i s a e l hi ha => by
      have hi' : i ∈ vs ∨ i ∉ es := hi.imp id And.left
      have b0 : blkG ls es vs G1 H1 As1 a = none := by
        rw [blkG_out fun j hj hja => ?_]
        · exact p.st.free i s e l a ha
        · have ij := p.st.dj i j a ha hja
          subst ij
          rcases hi with z | z
          · exact hj.1 z
          · exact z.2 hj.2.2
      have f0 : Fb a = none := by
        cases z : Fb a with
        | none => rfl
        | some o =>
          rcases bk.s.fn a b0 (by rw [z]; exact fun q => nomatch q) with y | ⟨j, y⟩ | y
          · exact absurd y (ownA i a ha)
          · exact absurd y (out i a ha hi' j)
          · cases y
      cases z : G' a with
      | none => rfl
      | some o =>
        have hB := inB a f0 (by rw [z]; exact fun q => nomatch q)
        rcases bk.o a hB with y | ⟨j, y⟩
        · exact absurd y (ownA i a ha)
        · exact absurd y (out i a ha hi' j)
    refine ⟨⟨by unfold unhide; rw [List.length_mapIdx]; exact p.st.len, fun i s h => ?_, fun i s h l a ha => ?_, fun i s h l a ha => ?_, fun i h => ?_, fun i => ?_, fun i j a h1 h2 => ?_, fun i a h => ?_, fun a o e => gg a o (p.st.fg a o e), gh⟩, fun a o e n => ?_, bk.s.dom, gg, fun a e n => ?_, fun i a h => ?_, fun a h => ?_, fun i s e l => ?_, fun i e => ?_⟩
    · rcases get i s h with ⟨hi, e⟩ | ⟨hv, he, e, hm, _⟩ | ⟨hv, he, hl, t, e, rfl⟩
      · have hi' : i ∈ vs ∨ i ∉ es := hi.imp id And.left
        obtain ⟨v, h1, r⟩ := p.st.slot i s e
        rw [a3n i hi']
        exact ⟨v, h1, r.mono bk.s.tp (Same.refl _) fun a ha o eo => kp i a o ha hi' eo⟩
      · obtain ⟨v, h1, r⟩ := bk.s.st.slot i s e
        rw [wipe_out hv] at h1
        rw [a3e i hv he]
        exact ⟨v, h1, r.anyG hm⟩
      · obtain ⟨v, h1, r⟩ := p.st.slot i t e
        rw [a3n i (.inr he)]
        refine ⟨v, h1, ?_⟩
        have r2 := r.mono bk.s.tp (Same.refl _) fun a ha o eo => kp i a o ha (.inr he) eo
        split <;> exact r2
    · rcases get i s h with ⟨hi, e⟩ | ⟨hv, he, e, hm, l2⟩ | ⟨hv, he, hl, t, e, rfl⟩
      · have hi' : i ∈ vs ∨ i ∉ es := hi.imp id And.left
        rw [a3n i hi'] at ha
        obtain ⟨o, eo, _⟩ := p.st.own ha
        rw [kp i a o ha hi' eo]
        exact gg a o ((p.st.lock i s e l a ha).trans eo)
      · rw [l2] at l; cases l
      · rw [a3n i (.inr he)] at ha
        obtain ⟨o, eo, _⟩ := p.st.own ha
        rw [kp i a o ha (.inr he) eo]
        exact fG a o (bk.s.ff a o ((blkG_in ⟨hv, he, hl⟩ ha).trans eo))
    · rcases get i s h with ⟨hi, e⟩ | ⟨hv, he, e, hm, l2⟩ | ⟨hv, he, hl, t, e, rfl⟩
      · rw [a3n i (hi.imp id And.left)] at ha
        exact freeO i s a e l hi ha
      · rw [a3e i hv he] at ha
        cases z : G' a with
        | none => rfl
        | some o => exact absurd ha (bk.t.a a (tB a (inB a (bk.s.st.fo i a ha) (by rw [z]; exact fun q => nomatch q))) i)
      · rw [a3n i (.inr he)] at ha
        obtain ⟨v, h1, r⟩ := p.st.slot i t e
        by_cases hm : t.m = .F
        · rw [r.Fnil hm] at ha; cases ha
        · rw [if_neg hm] at l; cases l
    · by_cases q : i ∉ vs ∧ i ∈ es
      · obtain ⟨s1, e1, _, _⟩ := esOk_get ok1 q.2 q.1
        obtain ⟨s2, e2, _, _⟩ := esOk_get ok2 q.2 q.1
        refine absurd ?_ (h s2)
        rw [unhide_get, e1, e2]
        simp [q.1, q.2]
      · have hi : i ∈ vs ∨ i ∉ es := Classical.byContradiction fun z => q ⟨fun y => z (.inl y), Classical.byContradiction fun y => z (.inr y)⟩
        rw [a3n i hi]
        refine p.st.none i fun s z => ?_
        by_cases hv : i ∈ vs
        · exact h s (by rw [unhide_get, z]; simp [hv])
        · have he : i ∉ es := hi.resolve_left hv
          by_cases hl : i ∈ ls
          · refine h (if s.m = .F then s else { s with lk := true }) ?_
            rw [unhide_get, z]
            simp [hv, he, hl, lock1]
          · exact h s (by rw [unhide_get, z]; simp [hv, he, hl])
    · by_cases q : i ∉ vs ∧ i ∈ es
      · rw [a3e i q.1 q.2]; exact bk.s.st.nd i
      · rw [a3n i (Classical.byContradiction fun z => q ⟨fun y => z (.inl y), Classical.byContradiction fun y => z (.inr y)⟩)]
        exact p.st.nd i
    · have mix : ∀ i j a, (i ∉ vs ∧ i ∈ es) → (j ∈ vs ∨ j ∉ es) → a ∈ Asb i → a ∈ As1 j → False := fun i j a hi hj h1 h2 => by
        rcases bk.s.an i a h1 with y | ⟨l, y⟩ | y
        · exact ownA j a h2 y
        · exact out j a h2 hj l y
        · cases y
      by_cases q : i ∉ vs ∧ i ∈ es <;> by_cases q2 : j ∉ vs ∧ j ∈ es
      · rw [a3e i q.1 q.2] at h1
        rw [a3e j q2.1 q2.2] at h2
        exact bk.s.st.dj i j a h1 h2
      · have hj : j ∈ vs ∨ j ∉ es := Classical.byContradiction fun z => q2 ⟨fun y => z (.inl y), Classical.byContradiction fun y => z (.inr y)⟩
        rw [a3e i q.1 q.2] at h1
        rw [a3n j hj] at h2
        exact (mix i j a q hj h1 h2).elim
      · have hi : i ∈ vs ∨ i ∉ es := Classical.byContradiction fun z => q ⟨fun y => z (.inl y), Classical.byContradiction fun y => z (.inr y)⟩
        rw [a3n i hi] at h1
        rw [a3e j q2.1 q2.2] at h2
        exact (mix j i a q2 hi h2 h1).elim
      · have hi : i ∈ vs ∨ i ∉ es := Classical.byContradiction fun z => q ⟨fun y => z (.inl y), Classical.byContradiction fun y => z (.inr y)⟩
        have hj : j ∈ vs ∨ j ∉ es := Classical.byContradiction fun z => q2 ⟨fun y => z (.inl y), Classical.byContradiction fun y => z (.inr y)⟩
        rw [a3n i hi] at h1
        rw [a3n j hj] at h2
        exact p.st.dj i j a h1 h2
    · by_cases q : i ∉ vs ∧ i ∈ es
      · rw [a3e i q.1 q.2] at h
        have f0 := bk.s.st.fo i a h
        cases z : F a with
        | none => rfl
        | some o =>
          rw [bk.s.ff a o (g1 a o (p.st.fg a o z))] at f0
          cases f0
      · rw [a3n i (Classical.byContradiction fun z => q ⟨fun y => z (.inl y), Classical.byContradiction fun y => z (.inr y)⟩)] at h
        exact p.st.fo i a h
    · exact bk.s.keep a o e (fun j z => n (unl j a z)) fun z => nomatch z
    · have fin : (H1 a = none ∨ ∃ j, a ∈ blkA es vs As1 j) → H1 a = none ∨ ∃ i, a ∈ As1 i := fun h => h.imp id fun ⟨j, y⟩ => ⟨j, (blkA_sub y).2.2⟩
      cases z : Fb a with
      | none => exact fin (bk.o a (inB a z n))
      | some o =>
        cases z2 : blkG ls es vs G1 H1 As1 a with
        | none =>
          rcases bk.s.fn a z2 (by rw [z]; exact fun q => nomatch q) with y | y | y
          · exact .inl y
          · exact fin (.inr y)
          · cases y
        | some o2 =>
          by_cases q : ∃ i, Lx ls es vs i ∧ a ∈ As1 i
          · obtain ⟨i, _, y⟩ := q
            exact .inr ⟨i, y⟩
          · rw [blkG_out fun i h1 h2 => q ⟨i, h1, h2⟩, e] at z2
            cases z2
    · by_cases q : i ∉ vs ∧ i ∈ es
      · rw [a3e i q.1 q.2] at h
        rcases bk.s.an i a h with y | ⟨j, y⟩ | y
        · exact .inr y
        · exact .inl ⟨j, (blkA_sub y).2.2⟩
        · cases y
      · rw [a3n i (Classical.byContradiction fun z => q ⟨fun y => z (.inl y), Classical.byContradiction fun y => z (.inr y)⟩)] at h
        exact .inl ⟨i, h⟩
    · obtain ⟨i, s, h1, h2, h3⟩ := h
      rcases get i s h1 with ⟨hi, e⟩ | ⟨hv, he, e, hm, l2⟩ | ⟨hv, he, hl, t, e, rfl⟩
      · rw [a3n i (hi.imp id And.left)] at h3
        exact .inl ⟨i, s, e, h2, h3⟩
      · rw [a3e i hv he] at h3
        rcases bk.s.an i a h3 with y | ⟨j, y⟩ | y
        · exact .inr y
        · exact .inl (unl j a y)
        · cases y
      · rw [a3n i (.inr he)] at h3
        obtain ⟨v, _, r⟩ := p.st.slot i t e
        by_cases hm : t.m = .F
        · rw [r.Fnil hm] at h3; cases h3
        · rw [if_neg hm] at h2; cases h2
    · by_cases hv : i ∈ vs
      · exact ⟨by rw [unhide_get, e]; simp [hv], a3n i (.inl hv)⟩
      by_cases he : i ∈ es
      · obtain ⟨s1, e1, _, l1⟩ := esOk_get ok1 he hv
        rw [e] at e1
        cases e1
        rw [l] at l1
        cases l1
      by_cases hl : i ∈ ls
      · refine ⟨?_, a3n i (.inr he)⟩
        rw [unhide_get, e]
        obtain ⟨sm, sl, sd⟩ := s
        simp only at l
        subst l
        simp [hv, he, hl, lock1]
      · exact ⟨by rw [unhide_get, e]; simp [hv, he, hl], a3n i (.inr he)⟩
    · by_cases hv : i ∈ vs
      · rw [unhide_get, e]; simp [hv]
      by_cases he : i ∈ es
      · obtain ⟨s1, e1, _, l1⟩ := esOk_get ok1 he hv
        rw [e] at e1
        cases e1
      by_cases hl : i ∈ ls
      · rw [unhide_get, e]
        simp [hv, he, hl, lock1]
      · rw [unhide_get, e]; simp [hv, he, hl]
  have ta : ∀ b ∈ D :: B, ∀ i, b ∉ As3 i := fun b hb i z => by
    by_cases q : i ∉ vs ∧ i ∈ es
    · rw [a3e i q.1 q.2] at z
      exact bk.t.a b hb i z
    · have hi : i ∈ vs ∨ i ∉ es := Classical.byContradiction fun z => q ⟨fun y => z (.inl y), Classical.byContradiction fun y => z (.inr y)⟩
      rw [a3n i hi] at z
      rcases List.mem_cons.mp hb with y | hb
      · exact ownA i b z (y ▸ hD)
      · rcases bk.o b hb with y | ⟨j, y⟩
        · exact ownA i b z y
        · exact out i b z hi j y
  have og : ∀ b ∈ D :: B, H b = none ∨ ∃ i, b ∈ As i := fun b hb => by
    rcases List.mem_cons.mp hb with y | hb
    · exact .inl (p.dom b (y ▸ hD))
    · rcases bk.o b hb with y | ⟨j, y⟩
      · exact .inl (p.dom b y)
      · rcases p.an j b (blkA_sub y).2.2 with y | y
        · exact .inr y
        · exact .inl y
  by_cases hO : allO rs = true
  · rw [if_pos hO] at k
    refine k (.ref D) H' Fb As3 (D :: B) (p.trans S (bg Fb (.inl rfl))) (.lstO hacc (repL_O racc hO)) ⟨bk.t.nd, bk.t.g, bk.t.h, ta⟩ og
  · rw [if_neg hO] at k
    refine k (.ref D) H' (lookAt Fb H' B) As3 [D] (p.trans S (bg _ (.inr rfl))) (.lstS hacc ?_) ⟨by simp, fun b hb => ?_, fun b hb => ?_, fun b hb i => ?_⟩ fun b hb => ?_
    · exact racc.froze (lookAt_same fun b hb => bk.t.g b (List.mem_cons_of_mem _ hb)) fun a ha => lookAt_in ha
    · rw [List.mem_singleton] at hb
      subst hb
      rw [lookAt_out (List.nodup_cons.mp bk.t.nd).1]
      exact bk.t.g b List.mem_cons_self
    · rw [List.mem_singleton] at hb
      subst hb
      exact bk.t.h b List.mem_cons_self
    · rw [List.mem_singleton] at hb
      subst hb
      exact ta b List.mem_cons_self i
    · rw [List.mem_singleton] at hb
      subst hb
      exact og b List.mem_cons_self
theorem sim_lc {wi : TI} {g : TG} {tt : TT} {te : TE} {ls es vs : List Nat} {src : SI} {gf : STg} {tf : SB} {f : SE} (hpv : ∀ i ∈ vs, W.pin i = false) (hi : SimI W wi src) (hg : SimG W vs g gf) (ht : SimT W tt tf) (hf : SimE W te f) :
    SimE W (tLc wi g tt te vs) (sLc ls es vs src gf tf f) := by
  refine sim_seal ?_
  intro ρ σ H F G As r ρ' Q S e k
  simp only at e
  split at e
  case h_2 => cases e
  rename_i ds1 ρ1 e1
  split at e
  case isFalse => cases e
  rename_i ok1
  split at e
  case h_2 => cases e
  rename_i rs ρ2 e2
  split at e
  case isFalse => cases e
  rename_i ok2
  refine hi ρ σ H F G As _ _ _ S e1 fun J H1 G1 As1 p it => ?_
  obtain ⟨S1, n1, g1⟩ := hide_sta (ls := ls) p.st ok1
  intro D hD
  -- the invariant
  refine ⟨fun i m H' => m = ds1.length - i ∧ i ≤ ds1.length ∧ ∃ ρb Fb Asb acc B, Blk W vs D (hide ls es vs ρ1) σ H1 (blkG ls es vs G1 H1 As1) (blkA es vs As1) ρb H' Fb Asb acc B ∧ lcGo gf tf f vs (ds1.drop i) ρb acc = some (rs, ρ2),
    ⟨ds1.length, by simp, Nat.zero_le _, hide ls es vs ρ1, blkG ls es vs G1 H1 As1, blkA es vs As1, [], [], ?_, by simpa using e2⟩, ?_⟩
  · have kp := upd_keep (u := .lst []) hD
    have gst := grow_step S1 n1 kp
    have hA : ∀ i, D ∉ blkA es vs As1 i := fun i z => by
      obtain ⟨o, eo, _⟩ := S1.own z
      rw [hD] at eo
      cases eo
    have hF : blkG ls es vs G1 H1 As1 D = none := by
      cases z : blkG ls es vs G1 H1 As1 D with
      | none => rfl
      | some o => rw [S1.gh D o z] at hD; cases hD
    refine ⟨gst, ⟨[], upd_same, .nil⟩, ⟨by simp, fun b hb => ?_, fun b hb => ?_, fun b hb => ?_⟩, fun _ z => (nomatch z)⟩
    · rw [List.mem_singleton] at hb; subst hb; exact hF
    · rw [List.mem_singleton] at hb; subst hb; rw [upd_same]; exact fun z => nomatch z
    · rw [List.mem_singleton] at hb; subst hb; exact hA
  rintro i m H' ⟨rfl, hle, ρb, Fb, Asb, acc, B, bk, e3⟩
  have L : Later W G1 H1 H' := ⟨fun a o e => bk.s.st.gh a o (bk.s.ff a o (g1 a o e)), bk.s.tp⟩
  by_cases hlt : i < ds1.length
  · refine .inr ⟨it.go H' i L hlt, fun H2 => ∃ ρb2 Fb2 Asb2 acc2 B2, Blk W vs D (hide ls es vs ρ1) σ H1 (blkG ls es vs G1 H1 As1) (blkA es vs As1) ρb2 H2 Fb2 Asb2 acc2 B2 ∧ lcGo gf tf f vs (ds1.drop (i + 1)) ρb2 acc2 = some (rs, ρ2),
      fun H2 z => ⟨ds1.length - (i + 1), by omega, rfl, hlt, z⟩, fun x H2 y => ?_⟩
    obtain ⟨kp, rx⟩ := it.yld H' i x H2 ds1[i] L (List.getElem?_eq_getElem hlt) y
    have ed : ds1.drop i = ds1[i] :: ds1.drop (i + 1) := List.drop_eq_getElem_cons hlt
    rw [ed, lcGo] at e3
    split at e3
    case h_2 => cases e3
    rename_i ρ3 e4
    have s2 := grow_step bk.s.st bk.s.nl kp
    have g2 : Same G1 Fb := fun a o e => bk.s.ff a o (g1 a o e)
    refine hg _ _ H2 Fb Asb _ x [] _ _ s2.st s2.nl ((rx.mono (fun _ _ z => z) g2 fun _ z => nomatch z).nrm) tmp_nil e4 fun σ3 H3 F3 As3 s3 w3 => ?_
    have hw : wipe σ3 vs = wipe σ vs := by
      have q := wipe_eq (vs := vs) (σ' := σ3) (σ := wipe σ vs) s3.ln w3
      rw [q, wipe_wipe]
    refine ⟨hw, ?_⟩
    cases e5 : tf ρ3 with
    | none => simp only [e5] at e3; cases e3
    | some tb =>
      obtain ⟨b, ρ4⟩ := tb
      refine ht _ σ3 H3 F3 F3 As3 b ρ4 _ s3.st e5 fun H4 As4 p4 l4 => ?_
      have s4 := test_step (b := b) s3.st s3.nl p4 (l4 s3.nl)
      have st := (s2.trans s3 fun _ z => nomatch z).trans s4 fun _ z => nomatch z
      cases b with
      | false =>
        simp only [e5] at e3
        refine iteF ?_
        obtain ⟨As5, s5, sub5⟩ := wipe_step hpv s4.st s4.nl hw
        have st := st.trans s5 fun _ z => nomatch z
        obtain ⟨t5, k5⟩ := st.tmp bk.t
        obtain ⟨al, ha, ra⟩ := bk.d
        exact ⟨_, F3, As5, acc, B, ⟨bk.s.trans st fun _ z => (nomatch z), ⟨al, k5 D (by simp) _ ha, ra.mono st.tp st.ff fun a z => k5 a (List.mem_cons_of_mem _ z)⟩, t5, bk.o⟩, e3⟩
      | true =>
        simp only [e5] at e3
        refine iteT ?_
        cases e6 : f ρ4 with
        | none => simp only [e6] at e3; cases e3
        | some ry =>
          obtain ⟨r1, ρ5⟩ := ry
          simp only [e6] at e3
          split at e3
          case isFalse => cases e3
          rename_i hsz
          refine hf _ σ3 H4 F3 F3 As4 r1 ρ5 _ s4.st e6 fun yv H5 G5 As5 B5 p5 rep5 t5 o5 => ?_
          obtain ⟨F6, As6, s6, rep6, t6⟩ := settle_ok s4.st s4.nl p5 rep5 t5 o5
          obtain ⟨As7, s7, sub7⟩ := wipe_step hpv s6.st s6.nl hw
          have st0 := st
          have st := (st.trans s6 fun _ z => nomatch z).trans s7 fun _ z => nomatch z
          obtain ⟨t7, k7⟩ := st.tmp bk.t
          obtain ⟨t4, k4⟩ := st0.tmp bk.t
          obtain ⟨al, ha, ra⟩ := bk.d
          have haD : H5 D = some (.lst al) := k7 D (by simp) _ ha
          have ra7 : RepL W H5 F6 acc al B := ra.mono st.tp st.ff fun a z => k7 a (List.mem_cons_of_mem _ z)
          have hz : al.length = acc.length := (repL_len ra).symm
          refine ⟨al, haD, by rw [hz]; exact of_ok hsz, _, F6, As7, acc ++ [r1], B ++ B5, ?_, e3⟩
          -- B5 stands apart
          have dj : ∀ b ∈ B5, b ∉ D :: B := fun b hb z => by
            rcases o5 b hb with y | ⟨j, y⟩
            · exact t4.h b z y
            · exact t4.a b z j y
          have n7 := List.nodup_cons.mp t7.nd
          have bs := bk.s.trans st fun _ z => nomatch z
          have T : ∀ a us, SqT W.K H5 a us → SqT W.K (upd H5 D (.lst (al ++ [yv]))) a us := fun a us h => by
            have ne : ∀ o, H5 a = some o → ¬ Mutb o → a ≠ D := fun o e nm z => by
              rw [z, haD] at e
              cases e
              exact nm trivial
            rcases h with (h | ⟨o, h⟩) | h
            · exact .inl (.inl (by rw [upd_ne (ne _ h fun z => z)]; exact h))
            · exact .inl (.inr ⟨o, by rw [upd_ne (ne _ h fun z => z)]; exact h⟩)
            · exact .inr h
          have repn : RepL W (upd H5 D (.lst (al ++ [yv]))) F6 (acc ++ [r1]) (al ++ [yv]) (B ++ (B5 ++ [])) := by
            refine repL_append (ra7.mono T (Same.refl _) fun a z o e => ?_) (.cons (rep6.mono T (Same.refl _) fun a z o e => ?_) .nil)
            · rw [upd_ne (fun (q : a = D) => n7.1 (q ▸ z))]; exact e
            · rw [upd_ne (fun (q : a = D) => dj a z (by rw [q]; exact List.mem_cons_self))]; exact e
          rw [List.append_nil] at repn
          have t6' : Tmp W (wipe σ vs) H5 F6 As7 B5 := ⟨t6.nd, t6.g, t6.h, fun b hb i z => t6.a b hb i (sub7 i b z)⟩
          refine ⟨bs.updD hD haD (t7.a D (by simp)) (t7.g D (by simp)), ⟨_, upd_same, repn⟩, ⟨?_, fun b hb => ?_, fun b hb => ?_, fun b hb => ?_⟩, fun b hb => ?_⟩
          · refine List.nodup_cons.mpr ⟨fun z => ?_, List.nodup_append.mpr ⟨n7.2, t6.nd, fun a ha b hb z => dj b hb (List.mem_cons_of_mem _ (z ▸ ha))⟩⟩
            rcases List.mem_append.mp z with z | z
            · exact n7.1 z
            · exact dj D z List.mem_cons_self
          · rcases List.mem_cons.mp hb with rfl | hb
            · exact t7.g _ (by simp)
            · rcases List.mem_append.mp hb with z | z
              · exact t7.g b (List.mem_cons_of_mem _ z)
              · exact t6'.g b z
          · rcases List.mem_cons.mp hb with rfl | hb
            · rw [upd_same]; exact fun z => nomatch z
            · by_cases q : b = D
              · rw [q, upd_same]; exact fun z => nomatch z
              · rw [upd_ne q]
                rcases List.mem_append.mp hb with z | z
                · exact t7.h b (List.mem_cons_of_mem _ z)
                · exact t6'.h b z
          · rcases List.mem_cons.mp hb with rfl | hb
            · exact t7.a _ (by simp)
            · rcases List.mem_append.mp hb with z | z
              · exact t7.a b (List.mem_cons_of_mem _ z)
              · exact t6'.a b z
          · rcases List.mem_append.mp hb with z | z
            · exact bk.o b z
            · have b0 := bk.s.trans st0 fun _ z => nomatch z
              rcases o5 b z with y | ⟨j, y⟩
              · exact .inl (b0.dom b y)
              · rcases b0.an j b y with y | y | y
                · exact .inl y
                · exact .inr y
                · cases y
  · have ei : i = ds1.length := by omega
    subst ei
    refine .inl ⟨it.stop H' L, ?_⟩
    rw [List.drop_length, lcGo] at e3
    cases e3
    cases e
    exact lc_end S p ok1 ok2 g1 hD bk k
end
end Tr
namespace Tr
open PySem L2
/-- a way into a thing -/
inductive Pst where
  | ix (k : Nat)
  | fd (n : Str)
def fdGet : List (Str × D) → Str → Option D
  | [], _ => none
  | (m, d) :: r, n => if m = n then some d else fdGet r n
def fdPut : List (Str × D) → Str → D → List (Str × D)
  | [], _, _ => []
  | (m, d) :: r, n, e => if m = n then (m, e) :: r else (m, d) :: fdPut r n e
def D.sub : D → List Pst → Option D
  | d, [] => some d
  | .lst xs, .ix k :: p => (xs[k]?).bind fun d => d.sub p
  | .tup xs, .ix k :: p => (xs[k]?).bind fun d => d.sub p
  | .ins _ fs, .fd n :: p => (fdGet fs n).bind fun d => d.sub p
  | _, _ :: _ => none
def D.put : D → List Pst → D → D
  | _, [], e => e
  | .lst xs, .ix k :: p, e => match xs[k]? with
    | some d => .lst (xs.set k (d.put p e))
    | none => .lst xs
  | .tup xs, .ix k :: p, e => match xs[k]? with
    | some d => .tup (xs.set k (d.put p e))
    | none => .tup xs
  | .ins c fs, .fd n :: p, e => match fdGet fs n with
    | some d => .ins c (fdPut fs n (d.put p e))
    | none => .ins c fs
  | d, _ :: _, _ => d
def fvGet : List (Str × V) → Str → Option V
  | [], _ => none
  | (m, d) :: r, n => if m = n then some d else fvGet r n
section
variable {W : Wd} {H H' F : Hp}
/-- the rest of what is held stands still -/
structure Kp (W : Wd) (H H' : Hp) (R : List Addr) : Prop where
  t : ∀ a vs, SqT W.K H a vs → SqT W.K H' a vs
  k : ∀ a ∈ R, ∀ o, H a = some o → H' a = some o
theorem reps_split {m : Mode} : ∀ {ds : List D} {vs : List V} {A : List Addr} {k : Nat} {d : D}, Reps W H F m ds vs A → ds[k]? = some d →
    ∃ v A0 A1 A2, A = A0 ++ (A1 ++ A2) ∧ vs[k]? = some v ∧ Rep W H F m d v A1 ∧
      ∀ H' d' A1', Rep W H' F m d' v A1' → Kp W H H' (A0 ++ A2) → Reps W H' F m (ds.set k d') vs (A0 ++ (A1' ++ A2))
  | _, _, _, _, _, .nil _, e => by simp at e
  | _, _, _, 0, _, .cons (d := d) (A := A) (B := B) h r, e => by
    simp at e
    subst e
    refine ⟨_, [], A, B, rfl, rfl, h, fun H' d' A1' h' kp => ?_⟩
    have w := Reps.cons h' (r.mono kp.t (Same.refl _) fun a z => kp.k a (by simpa using z))
    simpa using w
  | _, _, _, k + 1, _, .cons (d := d) (A := A) (B := B) h r, e => by
    simp at e
    obtain ⟨v, A0, A1, A2, eA, ev, h1, f⟩ := reps_split r e
    refine ⟨v, A ++ A0, A1, A2, by rw [eA]; simp, by simpa using ev, h1, fun H' d' A1' h' kp => ?_⟩
    have q := f H' d' A1' h' ⟨kp.t, fun a z => kp.k a (by simp at z ⊢; rcases z with z | z <;> simp [z])⟩
    have w := Reps.cons (h.mono kp.t (Same.refl _) fun a z => kp.k a (by simp [z])) q
    simpa using w
theorem repf_split {m : Mode} : ∀ {ds : List (Str × D)} {vs : List (Str × V)} {A : List Addr} {n : Str} {d : D}, Repf W H F m ds vs A → fdGet ds n = some d →
    ∃ v A0 A1 A2, A = A0 ++ (A1 ++ A2) ∧ fvGet vs n = some v ∧ Rep W H F m d v A1 ∧
      ∀ H' d' A1', Rep W H' F m d' v A1' → Kp W H H' (A0 ++ A2) → Repf W H' F m (fdPut ds n d') vs (A0 ++ (A1' ++ A2))
  | _, _, _, _, _, .nil _, e => by simp [fdGet] at e
  | _, _, _, n, _, .cons (n := m) (d := d) (A := A) (B := B) h r, e => by
    by_cases hm : m = n
    · simp [fdGet, hm] at e
      subst e
      refine ⟨_, [], A, B, rfl, by simp [fvGet, hm], h, fun H' d' A1' h' kp => ?_⟩
      have w := Repf.cons (n := m) h' (r.mono kp.t (Same.refl _) fun a z => kp.k a (by simpa using z))
      simpa [fdPut, hm] using w
    · simp [fdGet, hm] at e
      obtain ⟨v, A0, A1, A2, eA, ev, h1, f⟩ := repf_split r e
      refine ⟨v, A ++ A0, A1, A2, by rw [eA]; simp, by simpa [fvGet, hm] using ev, h1, fun H' d' A1' h' kp => ?_⟩
      have q := f H' d' A1' h' ⟨kp.t, fun a z => kp.k a (by simp at z ⊢; rcases z with z | z <;> simp [z])⟩
      have w := Repf.cons (n := m) (h.mono kp.t (Same.refl _) fun a z => kp.k a (by simp [z])) q
      simpa [fdPut, hm] using w
theorem sub_app : ∀ (p : List Pst) {d d1 : D} {q : List Pst}, d.sub p = some d1 → d.sub (p ++ q) = d1.sub q
  | [], d, d1, q, h => by simp [D.sub] at h; subst h; rfl
  | .ix k :: p, .lst xs, d1, q, h => by
    simp only [D.sub, List.cons_append] at h ⊢
    cases e : xs[k]? with
    | none => rw [e] at h; cases h
    | some x => rw [e] at h; exact sub_app p h
  | .ix k :: p, .tup xs, d1, q, h => by
    simp only [D.sub, List.cons_append] at h ⊢
    cases e : xs[k]? with
    | none => rw [e] at h; cases h
    | some x => rw [e] at h; exact sub_app p h
  | .fd n :: p, .ins c fs, d1, q, h => by
    simp only [D.sub, List.cons_append] at h ⊢
    cases e : fdGet fs n with
    | none => rw [e] at h; cases h
    | some x => rw [e] at h; exact sub_app p h
theorem put_app : ∀ (p : List Pst) {d d1 e : D} {q : List Pst}, d.sub p = some d1 → d.put (p ++ q) e = d.put p (d1.put q e)
  | [], d, d1, e, q, h => by simp [D.sub] at h; subst h; cases d <;> cases q <;> simp [D.put]
  | .ix k :: p, .lst xs, d1, e, q, h => by
    simp only [D.sub, List.cons_append, D.put] at h ⊢
    cases ek : xs[k]? with
    | none => simp [ek] at h
    | some x => simp only [ek, Option.bind_some] at h; simp only; rw [put_app p h]
  | .ix k :: p, .tup xs, d1, e, q, h => by
    simp only [D.sub, List.cons_append, D.put] at h ⊢
    cases ek : xs[k]? with
    | none => simp [ek] at h
    | some x => simp only [ek, Option.bind_some] at h; simp only; rw [put_app p h]
  | .fd n :: p, .ins c fs, d1, e, q, h => by
    simp only [D.sub, List.cons_append, D.put] at h ⊢
    cases ek : fdGet fs n with
    | none => simp [ek] at h
    | some x => simp only [ek, Option.bind_some] at h; simp only; rw [put_app p h]
/-- what a thing of its own holds at the end of a way, and what it is when that is changed -/
def Foc (W : Wd) (H F : Hp) (A : List Addr) (d : D) (v : V) (p : List Pst) (w : V) (d1 : D) : Prop :=
  ∃ A0 A1 A2, d.sub p = some d1 ∧ A = A0 ++ (A1 ++ A2) ∧ Rep W H F .O d1 w A1 ∧
    ∀ H' d1' A1', Rep W H' F .O d1' w A1' → Kp W H H' (A0 ++ A2) → Rep W H' F .O (d.put p d1') v (A0 ++ (A1' ++ A2))
theorem Foc.base {A : List Addr} {d : D} {v : V} (h : Rep W H F .O d v A) : Foc W H F A d v [] v d :=
  ⟨[], A, [], by simp [D.sub], by simp, h, fun H' d1' A1' h' _ => by cases d <;> simpa [D.put] using h'⟩
theorem Foc.mono {A : List Addr} {d d1 : D} {v w : V} {p : List Pst} (h : Foc W H F A d v p w d1) (hA : ∀ a ∈ A, ∀ o, H a = some o → H' a = some o) (hT : ∀ a vs, SqT W.K H a vs → SqT W.K H' a vs) : Foc W H' F A d v p w d1 := by
  obtain ⟨A0, A1, A2, h1, h2, h3, h4⟩ := h
  subst h2
  exact ⟨A0, A1, A2, h1, rfl, h3.mono hT (Same.refl _) fun a z => hA a (by simp [z]), fun H'' d1' A1' r k => h4 H'' d1' A1' r ⟨fun a vs z => k.t a vs (hT a vs z), fun a z o e => k.k a z o (hA a (by simp at z ⊢; rcases z with z | z <;> simp [z]) o e)⟩⟩
theorem Foc.lst {A : List Addr} {d : D} {v w : V} {p : List Pst} {xs : List D} (h : Foc W H F A d v p w (.lst xs)) :
    ∃ l vs, w = .ref l ∧ H l = some (.lst vs) ∧ vs.length = xs.length ∧ ∀ (j : Nat) (dj : D), xs[j]? = some dj → ∃ u, vs[j]? = some u ∧ Foc W H F A d v (p ++ [.ix j]) u dj := by
  obtain ⟨A0, A1, A2, h1, rfl, h3, h4⟩ := h
  cases h3 with
  | lstO hl r =>
    rename_i a vs B
    refine ⟨a, vs, rfl, hl, r.len.symm, fun j dj ej => ?_⟩
    obtain ⟨u, B0, B1, B2, eB, eu, hu, f⟩ := reps_split r ej
    refine ⟨u, eu, A0 ++ (a :: B0), B1, B2 ++ A2, ?_, by rw [eB]; simp, hu, fun H' d1' A1' r' k => ?_⟩
    · rw [sub_app p h1]; simp [D.sub, ej]
    · have w1 := f H' d1' A1' r' ⟨k.t, fun b z => k.k b (by simp at z ⊢; rcases z with z | z <;> simp [z])⟩
      have w2 := Rep.lstO (k.k a (by simp) _ hl) w1
      have w3 := h4 H' _ _ w2 ⟨k.t, fun b z => k.k b (by simp at z ⊢; rcases z with z | z <;> simp [z])⟩
      rw [put_app p h1]
      simpa [D.put, ej] using w3
theorem Foc.tup {A : List Addr} {d : D} {v w : V} {p : List Pst} {xs : List D} (h : Foc W H F A d v p w (.tup xs)) :
    ∃ l vs, w = .ref l ∧ SqT W.K H l vs ∧ vs.length = xs.length ∧ ∀ (j : Nat) (dj : D), xs[j]? = some dj → ∃ u, vs[j]? = some u ∧ Foc W H F A d v (p ++ [.ix j]) u dj := by
  obtain ⟨A0, A1, A2, h1, rfl, h3, h4⟩ := h
  cases h3 with
  | tup hl r =>
    rename_i a vs
    refine ⟨a, vs, rfl, hl, r.len.symm, fun j dj ej => ?_⟩
    obtain ⟨u, B0, B1, B2, eB, eu, hu, f⟩ := reps_split r ej
    refine ⟨u, eu, A0 ++ B0, B1, B2 ++ A2, ?_, by rw [eB]; simp, hu, fun H' d1' A1' r' k => ?_⟩
    · rw [sub_app p h1]; simp [D.sub, ej]
    · have w1 := f H' d1' A1' r' ⟨k.t, fun b z => k.k b (by simp at z ⊢; rcases z with z | z <;> simp [z])⟩
      have w2 := Rep.tup (k.t _ _ hl) w1
      have w3 := h4 H' _ _ w2 ⟨k.t, fun b z => k.k b (by simp at z ⊢; rcases z with z | z <;> simp [z])⟩
      rw [put_app p h1]
      simpa [D.put, ej] using w3
theorem Foc.ins {A : List Addr} {d : D} {v w : V} {p : List Pst} {c : String} {fs : List (Str × D)} (h : Foc W H F A d v p w (.ins c fs)) :
    ∃ l dx gs, w = .ref l ∧ H l = some (.ins (W.cls c) dx gs) ∧ ∀ (n : Str) (dj : D), fdGet fs n = some dj → ∃ u, fvGet gs n = some u ∧ Foc W H F A d v (p ++ [.fd n]) u dj := by
  obtain ⟨A0, A1, A2, h1, rfl, h3, h4⟩ := h
  cases h3 with
  | insO hl r =>
    rename_i a dx gs B
    refine ⟨a, dx, gs, rfl, hl, fun j dj ej => ?_⟩
    obtain ⟨u, B0, B1, B2, eB, eu, hu, f⟩ := repf_split r ej
    refine ⟨u, eu, A0 ++ (a :: B0), B1, B2 ++ A2, ?_, by rw [eB]; simp, hu, fun H' d1' A1' r' k => ?_⟩
    · rw [sub_app p h1]; simp [D.sub, ej]
    · have w1 := f H' d1' A1' r' ⟨k.t, fun b z => k.k b (by simp at z ⊢; rcases z with z | z <;> simp [z])⟩
      have w2 := Rep.insO (k.k a (by simp) _ hl) w1
      have w3 := h4 H' _ _ w2 ⟨k.t, fun b z => k.k b (by simp at z ⊢; rcases z with z | z <;> simp [z])⟩
      rw [put_app p h1]
      simpa [D.put, ej] using w3
end
section
variable {W : Wd} {ρ ρ' ρ1 ρ2 : Env} {σ σ' σ1 σ2 : L2.St} {H F G H' F' G' H1 F1 G1 H2 F2 : Hp} {As As' As1 As2 : Nat → List Addr} {B : List Addr}
/-- an own slot's thing is changed at l -/
theorem upd_ok {i : Nat} {s : Slot} {v : V} {l : Addr} {o o' : HO} {A' : List Addr} {m' : Mode} {d' : D} (S : Sta W ρ σ H F F As) (n : NoLk ρ) (t : Tmp W σ H F As B)
    (hs : ρ[i]? = some (some s)) (hv : σ[i]? = some (some v)) (hl : l ∈ As i) (ho : H l = some o)
    (rep : Rep W (upd H l o') F m' d' v A') (nd : A'.Nodup) (sub : ∀ a ∈ A', a ∈ As i ∨ a ∈ B) :
    Step W B ρ σ H F As (ρ.set i (some ⟨m', false, d'⟩)) σ (upd H l o') F (fun j => if j = i then A' else As j) := by
  have hi : i < ρ.length := lt_of_get hs
  have hlu : Unl ρ As l := ⟨i, s, hs, n i s hs, hl⟩
  have hFl : F l = none := S.fo i l hl
  have other : ∀ a o, H a = some o → a ≠ l → upd H l o' a = some o := fun a o e q => by rw [upd_ne q]; exact e
  have tups : ∀ a vs, SqT W.K H a vs → SqT W.K (upd H l o') a vs := S.tup fun a o e q => other a o e fun z => q (z ▸ hlu)
  have get : ∀ (j : Nat) (u : Slot), (ρ.set i (some ⟨m', false, d'⟩))[j]? = some (some u) → (j = i ∧ u = ⟨m', false, d'⟩) ∨ (j ≠ i ∧ ρ[j]? = some (some u)) := fun j u h => by
    rw [get_set] at h
    split at h
    · rename_i q
      cases h
      exact .inl ⟨q.1, rfl⟩
    · rename_i q
      by_cases z : j = i
      · exact absurd ⟨z, hi⟩ q
      · exact .inr ⟨z, h⟩
  have sb : ∀ j a, a ∈ (fun j => if j = i then A' else As j) j → (j = i ∧ a ∈ A') ∨ (j ≠ i ∧ a ∈ As j) := fun j a h => by
    by_cases q : j = i
    · simp only [if_pos q] at h; exact .inl ⟨q, h⟩
    · simp only [if_neg q] at h; exact .inr ⟨q, h⟩
  have fo' : ∀ a ∈ A', F a = none := fun a h => (sub a h).elim (S.fo i a) (t.g a)
  have nl : NoLk (ρ.set i (some ⟨m', false, d'⟩)) := fun j u h => by
    rcases get j u h with ⟨_, rfl⟩ | ⟨_, e⟩
    · rfl
    · exact n j u e
  have gh : Same F (upd H l o') := fun a o e => by
    have q := S.gh a o e
    exact other a o q fun z => by rw [z, hFl] at e; cases e
  refine ⟨⟨by rw [List.length_set]; exact S.len, fun j u h => ?_, fun j u h k => ?_, fun j u h k a ha => ?_, fun j h => ?_, fun j => ?_, fun j1 j2 a h1 h2 => ?_, fun j a h => ?_, S.fg, gh⟩, nl, fun a o e q _ => ?_, fun a e => ?_, Same.refl _, fun _ e q => absurd e q, fun j a h => ?_, tups, rfl, fun _ _ => rfl⟩
  · rcases get j u h with ⟨rfl, rfl⟩ | ⟨q, e⟩
    · refine ⟨v, hv, ?_⟩
      simp only [if_pos]
      exact rep
    · obtain ⟨x, hx, r⟩ := S.slot j u e
      refine ⟨x, hx, ?_⟩
      simp only [if_neg q]
      exact r.mono tups (Same.refl _) fun a ha o e => other a o e fun z => q (S.dj j i a ha (z ▸ hl))
  · rw [nl j u h] at k
    cases k
  · rcases sb j a ha with ⟨rfl, q⟩ | ⟨_, q⟩
    · exact fo' a q
    · exact S.fo j a q
  · have q : j ≠ i := fun z => h ⟨m', false, d'⟩ (by rw [z, List.getElem?_set_self hi])
    simp only [if_neg q]
    exact S.none j fun u z => h u (by rw [List.getElem?_set_ne (Ne.symm q)]; exact z)
  · by_cases q : j = i
    · simp only [if_pos q]; exact nd
    · simp only [if_neg q]; exact S.nd j
  · rcases sb j1 a h1 with ⟨e1, q1⟩ | ⟨e1, q1⟩ <;> rcases sb j2 a h2 with ⟨e2, q2⟩ | ⟨e2, q2⟩
    · exact e1.trans e2.symm
    · rcases sub a q1 with z | z
      · exact absurd (S.dj _ _ _ z q2).symm e2
      · exact absurd q2 (t.a a z j2)
    · rcases sub a q2 with z | z
      · exact absurd (S.dj _ _ _ z q1).symm e1
      · exact absurd q1 (t.a a z j1)
    · exact S.dj _ _ _ q1 q2
  · rcases sb j a h with ⟨_, q⟩ | ⟨_, q⟩
    · exact fo' a q
    · exact S.fo j a q
  · exact other a o e fun z => q i (z ▸ hl)
  · by_cases z : a = l
    · rw [z, upd_same] at e; cases e
    · rw [upd_ne z] at e; exact e
  · rcases sb j a h with ⟨_, q⟩ | ⟨_, q⟩
    · rcases sub a q with z | z
      · exact .inr (.inl ⟨i, z⟩)
      · exact .inr (.inr z)
    · exact .inr (.inl ⟨j, q⟩)
end
end Tr
namespace Tr
open PySem L2
def isLst : Option (Option Slot) → Bool
  | some (some ⟨_, _, .lst _⟩) => true
  | _ => false
/-- x.append(e) -/
noncomputable def sApnd (i : Nat) (f : SE) : SS := fun ρ =>
  if isLst ρ[i]? then
    match f ρ with
    | some (r, ρ1) =>
      match (settle ρ r ρ1)[i]? with
      | some (some ⟨m, _, .lst xs⟩) =>
        if ok (xs.length < sizeLine) then
          match m with
          | .O =>
            if r.m = .O then some (.nx ((settle ρ r ρ1).set i (some ⟨.O, false, .lst (xs ++ [r.d])⟩)))
            else if r.m = .F ∧ D.flats xs = true then some (.nx ((settle ρ r ρ1).set i (some ⟨.S, false, .lst (xs ++ [r.d])⟩)))
            else none
          | .S => if r.m = .F ∨ r.d.flat = true then some (.nx ((settle ρ r ρ1).set i (some ⟨.S, false, .lst (xs ++ [r.d])⟩))) else none
          | .F => none
        else none
      | _ => none
    | none => none
  else none
section
variable {W : Wd} {ρ ρ' ρ1 ρ2 : Env} {σ σ' σ1 σ2 : L2.St} {H F G H' F' G' H1 F1 G1 H2 F2 : Hp} {As As' As1 As2 : Nat → List Addr} {B : List Addr}
theorem own_list {i : Nat} {m : Mode} {lk : Bool} {xs : List D} (S : Sta W ρ σ H F G As) (h : ρ[i]? = some (some ⟨m, lk, .lst xs⟩)) (hm : m ≠ .F) :
    ∃ l vs A, σ[i]? = some (some (.ref l)) ∧ H l = some (.lst vs) ∧ As i = l :: A ∧ Reps W H F (kidL m) xs vs A := by
  obtain ⟨v, hv, r⟩ := S.slot i _ h
  generalize hA : As i = A at r
  cases r with
  | lstF => exact absurd rfl hm
  | lstS hl q => exact ⟨_, _, [], hv, hl, rfl, q⟩
  | lstO hl q => exact ⟨_, _, _, hv, hl, rfl, q⟩
theorem any_list {i : Nat} {m : Mode} {lk : Bool} {xs : List D} (S : Sta W ρ σ H F G As) (h : ρ[i]? = some (some ⟨m, lk, .lst xs⟩)) :
    ∃ l vs, σ[i]? = some (some (.ref l)) ∧ H l = some (.lst vs) := by
  obtain ⟨v, hv, r⟩ := S.slot i _ h
  generalize hA : As i = A at r
  cases r with
  | lstF hl _ => exact ⟨_, _, hv, S.gh _ _ (S.fg _ _ hl)⟩
  | lstS hl q => exact ⟨_, _, hv, hl⟩
  | lstO hl q => exact ⟨_, _, hv, hl⟩
theorem isLst_get {i : Nat} (h : isLst ρ[i]? = true) : ∃ m lk xs, ρ[i]? = some (some ⟨m, lk, .lst xs⟩) := by
  unfold isLst at h
  split at h
  · rename_i m lk xs e
    exact ⟨m, lk, xs, e⟩
  · cases h
theorem upd_reps {i : Nat} {l : Addr} {o : HO} {m : Mode} {ds : List D} {vs : List V} {A : List Addr} {s : Slot} (S : Sta W ρ σ H F F As) (n : NoLk ρ) (hs : ρ[i]? = some (some s)) (hl : l ∈ As i) (r : Reps W H F m ds vs A) (hA : l ∉ A) : Reps W (upd H l o) F m ds vs A :=
  r.mono (S.tup fun a o e q => by rw [upd_ne (fun z : a = l => q ⟨i, s, hs, n i s hs, z ▸ hl⟩)]; exact e) (Same.refl _) fun a ha o e => by
    rw [upd_ne (fun z : a = l => hA (z ▸ ha))]
    exact e
/-- an own list's content is changed -/
theorem lst_ok {i : Nat} {m m' : Mode} {lk : Bool} {xs ys : List D} {l : Addr} {vs us : List V} {A C : List Addr} (S : Sta W ρ σ H F F As) (n : NoLk ρ) (t : Tmp W σ H F As B)
    (h : ρ[i]? = some (some ⟨m, lk, .lst xs⟩)) (hv : σ[i]? = some (some (.ref l))) (hl : H l = some (.lst vs)) (hA : As i = l :: A)
    (hm : m' ≠ .F) (rep : Reps W H F (kidL m') ys us C) (hC : m' = .S → C = []) (nd : C.Nodup) (sub : ∀ a ∈ C, a ∈ A ∨ a ∈ B) :
    ∃ As', Step W B ρ σ H F As (ρ.set i (some ⟨m', false, .lst ys⟩)) σ (upd H l (.lst us)) F As' := by
  have li : l ∈ As i := by rw [hA]; exact List.mem_cons_self
  have hlC : l ∉ C := fun z => by
    rcases sub l z with q | q
    · have := S.nd i
      rw [hA] at this
      exact (List.nodup_cons.mp this).1 q
    · exact t.a l q i li
  have r2 := upd_reps (o := .lst us) S n h li rep hlC
  have r3 : Rep W (upd H l (.lst us)) F m' (.lst ys) (.ref l) (l :: C) := by
    cases m' with
    | F => exact absurd rfl hm
    | S =>
      have := hC rfl
      subst this
      exact .lstS upd_same r2
    | O => exact .lstO upd_same r2
  exact ⟨_, upd_ok S n t h hv li hl r3 (List.nodup_cons.mpr ⟨hlC, nd⟩) fun a ha => by
    rcases List.mem_cons.mp ha with rfl | q
    · exact .inl li
    · rcases sub a q with z | z
      · exact .inl (by rw [hA]; exact List.mem_cons_of_mem _ z)
      · exact .inr z⟩
theorem sim_apnd {i : Nat} {te : TE} {f : SE} (hf : SimE W te f) : SimS W (tDrop (tBM W.K "list" rAppend (tVar i) (tCons te tNil))) (sApnd i f) := by
  intro ρ σ H F As D out S n e k
  unfold sApnd at e
  split at e
  case isFalse => cases e
  rename_i hi
  obtain ⟨m0, lk0, xs0, e0⟩ := isLst_get hi
  obtain ⟨l0, vs0, hv0, hl0⟩ := any_list S e0
  split at e
  case h_2 => cases e
  rename_i r ρ1 e1
  refine ⟨_, hv0, .inl ⟨rfl, _, SqL.of hl0⟩, ?_⟩
  refine hf ρ σ H F F As _ _ _ S e1 fun v H1 G1 As1 B p rep t org => ?_
  obtain ⟨F2, As2, q, rep2, t2⟩ := settle_ok S n p rep t org
  split at e
  case h_2 => cases e
  rename_i m lk xs e2
  split at e
  case isFalse => cases e
  rename_i hlen
  have go : ∀ (m' : Mode) (C : List Addr), m ≠ .F → m' ≠ .F → out = .nx ((settle ρ r ρ1).set i (some ⟨m', false, .lst (xs ++ [r.d])⟩)) →
      (∀ l vs A, As2 i = l :: A → Reps W H1 F2 (kidL m) xs vs A → ∃ C, Reps W H1 F2 (kidL m') (xs ++ [r.d]) (vs ++ [v]) C ∧ (m' = .S → C = []) ∧ C.Nodup ∧ ∀ a ∈ C, a ∈ A ∨ a ∈ B) →
      tNil σ H1 fun xs H2 => rAppend (.ref l0) (v :: xs) H2 fun _ H1 => D.nx σ H1 := fun m' _ hm hm' ho hr => by
    obtain ⟨l, vs, A, hv, hl, hA, rs⟩ := own_list q.st e2 hm
    rw [hv0] at hv
    cases hv
    obtain ⟨C, r1, r2, r3, r4⟩ := hr l0 vs A hA rs
    obtain ⟨As3, q3⟩ := lst_ok q.st q.nl t2 e2 hv0 hl hA hm' r1 r2 r3 r4
    subst ho
    exact ⟨l0, vs, v, rfl, rfl, hl, by rw [← rs.len]; exact of_ok hlen, k _ _ _ _ (q.trans q3 org)⟩
  cases m with
  | F => cases e
  | O =>
    simp only at e
    split at e
    · rename_i hr
      cases e
      have rep3 : Rep W H1 F2 .O r.d v B := by rw [hr] at rep2; exact rep2
      refine go .O [] (by simp) (by simp) rfl fun l vs A hA rs => ⟨A ++ (B ++ []), reps_append (m := .O) rs (.cons rep3 (.nil _)), (fun z => by cases z), ?_, ?_⟩
      · rw [List.append_nil]
        refine List.nodup_append.mpr ⟨?_, t2.nd, fun a ha b hb z => ?_⟩
        · have := q.st.nd i
          rw [hA] at this
          exact (List.nodup_cons.mp this).2
        · exact t2.a b hb i (by rw [hA, ← z]; exact List.mem_cons_of_mem _ ha)
      · intro a ha
        simpa using ha
    · split at e
      case isFalse => cases e
      rename_i _ hr
      cases e
      refine go .S [] (by simp) (by simp) rfl fun l vs A hA rs => ⟨[], ?_, fun _ => rfl, List.nodup_nil, fun _ z => nomatch z⟩
      have r0 := (rs.flat hr.2).2 .F F2
      have r1 : Rep W H1 F2 .F r.d v [] := by
        have := rep2.Fnil hr.1
        rw [hr.1, this] at rep2
        exact rep2
      exact reps_append (A := []) (B := []) r0 (.cons (A := []) (B := []) r1 (.nil _))
  | S =>
    simp only at e
    split at e
    case isFalse => cases e
    rename_i hr
    cases e
    refine go .S [] (by simp) (by simp) rfl fun l vs A hA rs => ⟨[], ?_, fun _ => rfl, List.nodup_nil, fun _ z => nomatch z⟩
    have hA0 := rs.Fnil rfl
    subst hA0
    have r1 : Rep W H1 F2 .F r.d v [] := by
      rcases hr with hr | hr
      · have := rep2.Fnil hr
        rw [hr, this] at rep2
        exact rep2
      · exact (rep2.flat hr).2 .F F2
    exact reps_append (A := []) (B := []) rs (.cons (A := []) (B := []) r1 (.nil _))
theorem reps_set {m : Mode} {d : D} {v : V} {H F : Hp} (hr : Rep W H F m d v B) (nB : B.Nodup) : ∀ {ds : List D} {vs : List V} {A : List Addr} {k : Nat}, Reps W H F m ds vs A → k < ds.length → A.Nodup → (∀ a ∈ A, a ∉ B) →
    ∃ A', Reps W H F m (ds.set k d) (vs.set k v) A' ∧ A'.Nodup ∧ ∀ a ∈ A', a ∈ A ∨ a ∈ B
  | _, _, _, _, .nil _, h, _, _ => by simp at h
  | _, _, _, 0, .cons (A := A0) (B := B0) h r, _, nd, dj => by
    have nd2 := List.nodup_append.mp nd
    exact ⟨B ++ B0, .cons hr r, List.nodup_append.mpr ⟨nB, nd2.2.1, fun a ha b hb z => dj b (List.mem_append_right _ hb) (z ▸ ha)⟩, fun a ha => by
      rcases List.mem_append.mp ha with z | z
      · exact .inr z
      · exact .inl (List.mem_append_right _ z)⟩
  | _, _, _, k + 1, .cons (A := A0) (B := B0) h r, hk, nd, dj => by
    have nd2 := List.nodup_append.mp nd
    obtain ⟨A', r1, n1, s1⟩ := reps_set hr nB (k := k) r (by simpa using hk) nd2.2.1 fun a ha => dj a (List.mem_append_right _ ha)
    refine ⟨A0 ++ A', .cons h r1, List.nodup_append.mpr ⟨nd2.1, n1, fun a ha b hb z => ?_⟩, fun a ha => ?_⟩
    · rcases s1 b hb with q | q
      · exact nd2.2.2 a ha b q z
      · exact dj a (List.mem_append_left _ ha) (z ▸ q)
    · rcases List.mem_append.mp ha with z | z
      · exact .inl (List.mem_append_left _ z)
      · rcases s1 a z with q | q
        · exact .inl (List.mem_append_right _ q)
        · exact .inr q
theorem Step.transB (p : Step W [] ρ σ H F As ρ1 σ1 H1 F1 As1) (q : Step W B ρ1 σ1 H1 F1 As1 ρ2 σ2 H2 F2 As2) : Step W B ρ σ H F As ρ2 σ2 H2 F2 As2 where
  st := q.st
  nl := q.nl
  keep := fun a o e n nb => q.keep a o (p.keep a o e n fun z => nomatch z) (fun i z => by
    rcases p.an i a z with y | ⟨j, y⟩ | y
    · rw [e] at y; cases y
    · exact n j y
    · cases y) nb
  dom := fun a e => p.dom a (q.dom a e)
  ff := p.ff.trans q.ff
  fn := fun a e n => by
    cases z : F1 a with
    | some o =>
      rcases p.fn a e (by rw [z]; exact fun q => nomatch q) with y | y | y
      · exact .inl y
      · exact .inr (.inl y)
      · cases y
    | none =>
      rcases q.fn a z n with y | ⟨i, y⟩ | y
      · exact .inl (p.dom a y)
      · rcases p.an i a y with y | y | y
        · exact .inl y
        · exact .inr (.inl y)
        · cases y
      · exact .inr (.inr y)
  an := fun i a h => by
    rcases q.an i a h with y | ⟨j, y⟩ | y
    · exact .inl (p.dom a y)
    · rcases p.an j a y with y | y | y
      · exact .inl y
      · exact .inr (.inl y)
      · cases y
    · exact .inr (.inr y)
  tp := fun a vs h => q.tp a vs (p.tp a vs h)
  ln := q.ln.trans p.ln
  pn := fun i h => (q.pn i h).trans (p.pn i h)
/-- a list's item is changed -/
def putAt (r : Val) (ρ : Env) (i : Nat) (k : Int) : Option Env :=
  match ρ[i]? with
  | some (some ⟨m, _, .lst xs⟩) =>
    match ixN xs.length k with
    | some j =>
      match m with
      | .O =>
        if r.m = .O then some (ρ.set i (some ⟨.O, false, .lst (xs.set j r.d)⟩))
        else if r.m = .F ∧ D.flats xs = true then some (ρ.set i (some ⟨.S, false, .lst (xs.set j r.d)⟩))
        else none
      | .S => if r.m = .F ∨ r.d.flat = true then some (ρ.set i (some ⟨.S, false, .lst (xs.set j r.d)⟩)) else none
      | .F => none
    | none => none
  | _ => none
theorem putAt_ok {r : Val} {v : V} {i : Nat} {k : Int} (S : Sta W ρ σ H F F As) (n : NoLk ρ) (rep : Rep W H F r.m r.d v B) (t : Tmp W σ H F As B) (e : putAt r ρ i k = some ρ') :
    ∃ l vs j, σ[i]? = some (some (.ref l)) ∧ H l = some (.lst vs) ∧ ixN vs.length k = some j ∧ ∃ As', Step W B ρ σ H F As ρ' σ (upd H l (.lst (vs.set j v))) F As' := by
  unfold putAt at e
  split at e
  case h_2 => cases e
  rename_i m lk xs e2
  split at e
  case h_2 => cases e
  rename_i j ej
  have hj : j < xs.length := (ixN_seq ej).2.1
  have go : ∀ m', m ≠ .F → m' ≠ .F → ρ' = ρ.set i (some ⟨m', false, .lst (xs.set j r.d)⟩) →
      (∀ l vs A, As i = l :: A → Reps W H F (kidL m) xs vs A → ∃ C, Reps W H F (kidL m') (xs.set j r.d) (vs.set j v) C ∧ (m' = .S → C = []) ∧ C.Nodup ∧ ∀ a ∈ C, a ∈ A ∨ a ∈ B) →
      ∃ l vs j, σ[i]? = some (some (.ref l)) ∧ H l = some (.lst vs) ∧ ixN vs.length k = some j ∧ ∃ As', Step W B ρ σ H F As ρ' σ (upd H l (.lst (vs.set j v))) F As' := fun m' hm hm' ho hr => by
    obtain ⟨l, vs, A, hv, hl, hA, rs⟩ := own_list S e2 hm
    obtain ⟨C, r1, r2, r3, r4⟩ := hr l vs A hA rs
    obtain ⟨As3, q3⟩ := lst_ok S n t e2 hv hl hA hm' r1 r2 r3 r4
    subst ho
    exact ⟨l, vs, j, hv, hl, by rw [← rs.len]; exact ej, As3, q3⟩
  cases m with
  | F => cases e
  | O =>
    simp only at e
    split at e
    · rename_i hr
      cases e
      have rep3 : Rep W H F .O r.d v B := by rw [hr] at rep; exact rep
      refine go .O (by simp) (by simp) rfl fun l vs A hA rs => ?_
      have ndA : (l :: A).Nodup := by rw [← hA]; exact S.nd i
      obtain ⟨C, c1, c2, c3⟩ := reps_set rep3 t.nd (k := j) rs hj (List.nodup_cons.mp ndA).2 fun a ha hb => t.a a hb i (by rw [hA]; exact List.mem_cons_of_mem _ ha)
      exact ⟨C, c1, (fun z => by cases z), c2, c3⟩
    · split at e
      case isFalse => cases e
      rename_i _ hr
      cases e
      refine go .S (by simp) (by simp) rfl fun l vs A hA rs => ?_
      have r0 := (rs.flat hr.2).2 .F F
      have r1 : Rep W H F .F r.d v [] := by
        have := rep.Fnil hr.1
        rw [hr.1, this] at rep
        exact rep
      obtain ⟨C, c1, c2, c3⟩ := reps_set r1 List.nodup_nil (k := j) r0 hj List.nodup_nil fun a ha => nomatch ha
      have := c1.Fnil rfl
      subst this
      exact ⟨[], c1, fun _ => rfl, List.nodup_nil, fun _ z => nomatch z⟩
  | S =>
    simp only at e
    split at e
    case isFalse => cases e
    rename_i hr
    cases e
    refine go .S (by simp) (by simp) rfl fun l vs A hA rs => ?_
    have hA0 := rs.Fnil rfl
    subst hA0
    have r1 : Rep W H F .F r.d v [] := by
      rcases hr with hr | hr
      · have := rep.Fnil hr
        rw [hr, this] at rep
        exact rep
      · exact (rep.flat hr).2 .F F
    obtain ⟨C, c1, c2, c3⟩ := reps_set r1 List.nodup_nil (k := j) rs hj List.nodup_nil fun a ha => nomatch ha
    have := c1.Fnil rfl
    subst this
    exact ⟨[], c1, fun _ => rfl, List.nodup_nil, fun _ z => nomatch z⟩
/-- x[k] as a target -/
def sGSub (i : Nat) (g : SE) : STg := fun r ρ =>
  if isLst ρ[i]? then
    match g ρ with
    | some (⟨_, .int k⟩, ρ1) => putAt r (restore ρ ρ1) i k
    | _ => none
  else none
theorem sim_gsub {i : Nat} {ti : TE} {g : SE} {ws : List Nat} (hg : SimE W ti g) : SimG W ws (gSub (tVar i) ti rSetL) (sGSub i g) := by
  intro ρ σ H F As r v B ρ' Q S n rep t e k
  unfold sGSub at e
  split at e
  case isFalse => cases e
  rename_i hi
  obtain ⟨m0, lk0, xs0, e0⟩ := isLst_get hi
  obtain ⟨l0, vs0, hv0, hl0⟩ := any_list S e0
  split at e
  case h_2 => cases e
  rename_i mk kk ρ1 e1
  refine ⟨_, hv0, ?_⟩
  refine hg ρ σ H F F As _ _ _ S e1 fun x H1 G1 As1 B1 p rx tx org => ?_
  have ex : x = .int kk := by cases rx; rfl
  subst ex
  have p2 := p.restore S
  have q := test_step (b := true) S n p2 (restore_nolk S n p)
  obtain ⟨t2, kb⟩ := p2.tmp S t
  have rep2 : Rep W H1 F r.m r.d v B := rep.mono q.tp (Same.refl _) kb
  obtain ⟨l, vs, j, hv, hl, hj, As2, q2⟩ := putAt_ok q.st q.nl rep2 t2 e
  rw [hv0] at hv
  cases hv
  exact ⟨l0, vs, kk, j, rfl, rfl, hl, hj, k _ _ _ _ (q.transB q2) fun _ _ => rfl⟩
/-- x[k] op= e, of ints -/
def sAugS (i : Nat) (op : Int → Int → Int) (g f : SE) : SS := fun ρ =>
  if isLst ρ[i]? then
    match g ρ with
    | some (⟨_, .int k⟩, ρ1) =>
      match (restore ρ ρ1)[i]? with
      | some (some ⟨_, _, .lst xs⟩) =>
        match atI xs k with
        | some (.int old) =>
          match f (restore ρ ρ1) with
          | some (⟨_, .int y⟩, ρ2) =>
            match putAt ⟨.O, .int (op old y)⟩ (restore (restore ρ ρ1) ρ2) i k with
            | some ρ3 => some (.nx ρ3)
            | none => none
          | _ => none
        | _ => none
      | _ => none
    | _ => none
  else none
theorem pget_list {X : Cx} : PGet X (rIxL X.K) := by
  intro pins s σ H o i ov iv Q I ro ri h
  obtain ⟨p, xs, j0, z, rfl, rfl, hq, he, q⟩ := h
  cases ro
  obtain ⟨t, rfl⟩ := ri
  obtain ⟨its, r, pl, hz⟩ := I.list hq
  obtain ⟨j, h1, h2, h3, h4, h5⟩ := atI_get he
  obtain ⟨w, ew, rw'⟩ := r.get h2
  have hl := r.length
  have hn := line63
  have fin : EP X pins σ Q w s := ⟨z, H, I, rw', q⟩
  by_cases h0 : 0 ≤ j0
  · have hj : j0.toNat = j := by
      rw [seqIndex_of h0 h5] at h1
      exact Option.some.inj h1
    exact PySem.wpAny_getItem_list pl.isList h0 (by lia) (by rw [hj]; simpa using ew) fin
  · have hj : (j0 + (its.toArray.size : Int)).toNat = j := by
      rw [seqIndex_neg (by lia) h4] at h1
      rw [List.size_toArray, ← hl]
      exact Option.some.inj h1
    exact PySem.wpAny_getItem_list_neg pl.isList (by lia) (by rw [List.size_toArray]; lia) (by lia) (by rw [hj]; simpa using ew) fin
end
end Tr
namespace Tr
open PySem L2 RZ
abbrev Cl := String → Addr
abbrev EvE (W : Wd) (X : Cx) (e : Expr) (f : SE) (t : TE) : Prop := PE X e t ∧ SimE W t f
abbrev EvT (W : Wd) (X : Cx) (e : Expr) (f : SB) (t : TT) : Prop := PT X e t ∧ SimT W t f
abbrev EvW (W : Wd) (X : Cx) (e : Expr) (f : SB) (t : TT) : Prop := PW X e t ∧ SimT W t f
abbrev EvA (W : Wd) (X : Cx) (es : List Expr) (f : SA) (t : TA) : Prop := PA X es t ∧ SimA W t f
abbrev EvS (W : Wd) (X : Cx) (st : Stmt) (f : SS) (t : TS) : Prop := PS X st t ∧ SimS W t f
abbrev EvB (W : Wd) (X : Cx) (st : List Stmt) (f : SS) (t : TS) : Prop := PSs X st t ∧ SimS W t f
abbrev EvG (W : Wd) (X : Cx) (ws : List Nat) (e : Expr) (f : STg) (t : TG) : Prop := PG X e t ∧ SimG W ws t f
abbrev EvGs (W : Wd) (X : Cx) (ws : List Nat) (es : List Expr) (n : Nat) (f : List D → Mode → Env → Option Env) (t : TGs) : Prop := (PGs X es t ∧ SimGs W ws t f) ∧ ∀ ds m ρ ρ', f ds m ρ = some ρ' → ds.length = n
abbrev EvI (W : Wd) (X : Cx) (tg e : Expr) (f : SI) (t : TI) : Prop := PI X tg e t ∧ SimI W t f
section
variable {W : Wd} {X : Cx} {e a b : Expr} {es : List Expr} {pos p : Pos} {f g h : SE} {fs : SA} {s u : SB} {x : Str} {ta tb tc : TE} {tp tq : TT} {tA : TA} {tw : TI} {tl tr : TO} {tS tU : TS} {tg0 : TG} {tgs : TGs}
theorem ev_var (i : Nat) {x : Str} {pos : Pos} (hN : X.N[i]? = some x := by rfl) (hv : Vis X.env.scope x := by first | exact Or.inl rfl | exact Or.inr (Or.inl rfl) | exact Or.inr (Or.inr rfl)) (hd : (x == ("__debug__" : Str)) = false := by decide)
    (hcd : (x == ("__classdict__" : Str)) = false := by decide) : EvE W X (.Name x pos) (sVar i) (tVar i) := ⟨pe_var hN hv hd hcd, sim_var i⟩
theorem ev_move (i : Nat) {x : Str} {pos : Pos} (hN : X.N[i]? = some x := by rfl) (hv : Vis X.env.scope x := by first | exact Or.inl rfl | exact Or.inr (Or.inl rfl) | exact Or.inr (Or.inr rfl)) (hd : (x == ("__debug__" : Str)) = false := by decide)
    (hcd : (x == ("__classdict__" : Str)) = false := by decide) : EvE W X (.Name x pos) (sMove i) (tVar i) := ⟨pe_var hN hv hd hcd, sim_move i⟩
theorem ev_int {i : Int} {j pos} : EvE W X (.Constant (.int i) j pos) (sCon (.int i)) (tC (.int i)) := ⟨pe_int, sim_con fun _ _ => .int _ _⟩
theorem ev_bl {i : Bool} {j pos} : EvE W X (.Constant (.bool i) j pos) (sCon (.bl i)) (tC (.bl i)) := ⟨pe_bl, sim_con fun _ _ => .bl _ _⟩
theorem ev_non {j pos} : EvE W X (.Constant .none j pos) (sCon .non) (tC .non) := ⟨pe_non, sim_con fun _ _ => .non _⟩
theorem ev_op {op : Operator} {r : R2} {o : List Val → Option Val} (ho : OpR X (binaryOp op) r) (hs : VOp W (rr2 r) o) (ha : EvE W X a f ta) (hb : EvE W X b g tb) : EvE W X (.BinOp a op b pos) (sApp2 o f g) (tOp r ta tb) :=
  let ⟨pa, sa⟩ := ha
  let ⟨pb, sb⟩ := hb
  ⟨pe_op ho pa pb, sim_app2 sa sb hs⟩
theorem ev_add (ha : EvE W X a f ta) (hb : EvE W X b g tb) : EvE W X (.BinOp a .Add b pos) (sApp2 opAdd f g) (tOp rAdd3 ta tb) := ev_op op_add3 vop_add ha hb
theorem ev_sub (ha : EvE W X a f ta) (hb : EvE W X b g tb) : EvE W X (.BinOp a .Sub b pos) (sApp2 opSub f g) (tOp (rI0 fun i j => .int (i - j)) ta tb) := ev_op op_sub vop_sub ha hb
theorem ev_mul (ha : EvE W X a f ta) (hb : EvE W X b g tb) : EvE W X (.BinOp a .Mult b pos) (sApp2 opMul f g) (tOp rMul3 ta tb) := ev_op op_mul3 vop_mul ha hb
theorem ev_mod (ha : EvE W X a f ta) (hb : EvE W X b g tb) : EvE W X (.BinOp a .Mod b pos) (sApp2 opMod f g) (tOp (rI (fun _ j => j ≠ 0) fun i j => .int (i.fmod j)) ta tb) := ev_op op_modN vop_mod ha hb
theorem ev_div (ha : EvE W X a f ta) (hb : EvE W X b g tb) : EvE W X (.BinOp a .FloorDiv b pos) (sApp2 opDiv f g) (tOp (rI CDivZ fun i j => .int (i.fdiv j)) ta tb) := ev_op op_fdivZ vop_div ha hb
theorem ev_pow (ha : EvE W X a f ta) (hb : EvE W X b g tb) : EvE W X (.BinOp a .Pow b pos) (sApp2 opPow f g) (tOp (rI CPow fun i j => .int (i ^ j.toNat)) ta tb) := ev_op op_pow vop_pow ha hb
theorem ev_neg (ha : EvE W X a f ta) : EvE W X (.UnaryOp .USub a pos) (sApp1 opNeg f) (tUn (rU fun i => .int (-i)) ta) :=
  let ⟨pa, sa⟩ := ha
  ⟨pe_un un_neg pa, sim_app1 sa vop_neg⟩
theorem ev_cmp {op : CmpOp} {r : R2} {o : List Val → Option Val} (ho : OpR X (compareOp op) r) (hs : VOp W (rr2 r) o) (ha : EvE W X a f ta) (hb : EvE W X b g tb) (hm : behindInMarks op b = false) : EvE W X (.Compare a [op] [b] pos) (sApp2 o f g) (tOp r ta tb) :=
  let ⟨pa, sa⟩ := ha
  let ⟨pb, sb⟩ := hb
  ⟨pe_cmpR ho pa pb hm, sim_app2 sa sb hs⟩
theorem et_cmp {op : CmpOp} {r : R2} {o : List Val → Option Val} (ho : OpR X (compareOp op) r) (hs : VOp W (rr2 r) o) (ha : EvE W X a f ta) (hb : EvE W X b g tb) (hm : behindInMarks op b = false) : EvT W X (.Compare a [op] [b] pos) (sTest (sApp2 o f g)) (tTest (tOp r ta tb)) :=
  let ⟨pa, sa⟩ := ha
  let ⟨pb, sb⟩ := hb
  ⟨pt_cmpR ho pa pb hm, sim_test (sim_app2 sa sb hs)⟩
theorem ev_lt (ha : EvE W X a f ta) (hb : EvE W X b g tb) : EvE W X (.Compare a [.Lt] [b] pos) (sApp2 opLt f g) (tOp (rI0 fun i j => .bl (decide (i < j))) ta tb) := ev_cmp op_lt vop_lt ha hb (nomark _)
theorem et_lt (ha : EvE W X a f ta) (hb : EvE W X b g tb) : EvT W X (.Compare a [.Lt] [b] pos) (sTest (sApp2 opLt f g)) (tTest (tOp (rI0 fun i j => .bl (decide (i < j))) ta tb)) := et_cmp op_lt vop_lt ha hb (nomark _)
theorem et_gt (ha : EvE W X a f ta) (hb : EvE W X b g tb) : EvT W X (.Compare a [.Gt] [b] pos) (sTest (sApp2 opGt f g)) (tTest (tOp (rI0 fun i j => .bl (decide (j < i))) ta tb)) := et_cmp op_gt vop_gt ha hb (nomark _)
theorem et_ge (ha : EvE W X a f ta) (hb : EvE W X b g tb) : EvT W X (.Compare a [.GtE] [b] pos) (sTest (sApp2 opGe f g)) (tTest (tOp (rI0 fun i j => .bl (decide (j ≤ i))) ta tb)) := et_cmp op_ge vop_ge ha hb (nomark _)
theorem et_eq (hu : X.A.units + 64 < cLine) (ha : EvE W X a f ta) (hb : EvE W X b g tb) (hK : X.K = W.K := by rfl) : EvT W X (.Compare a [.Eq] [b] pos) (sTest (sApp2 opEq f g)) (tTest (tOp (rEqD W.K) ta tb)) := et_cmp (hK ▸ op_eqD hu) vop_eq ha hb (nomark _)
theorem et_ne (hu : X.A.units + 64 < cLine) (ha : EvE W X a f ta) (hb : EvE W X b g tb) (hK : X.K = W.K := by rfl) : EvT W X (.Compare a [.NotEq] [b] pos) (sTest (sApp2 opNe f g)) (tTest (tOp (rNeD W.K) ta tb)) := et_cmp (hK ▸ op_neD hu) vop_ne ha hb (nomark _)
theorem et_isN (ha : EvE W X a f ta) (hb : EvE W X b g tb) : EvT W X (.Compare a [.Is] [b] pos) (sTest (sApp2 opIsN f g)) (tTest (tOp rIsN ta tb)) := et_cmp op_isN vop_isN ha hb (nomark _)
theorem et_notN (ha : EvE W X a f ta) (hb : EvE W X b g tb) : EvT W X (.Compare a [.IsNot] [b] pos) (sTest (sApp2 opNotN f g)) (tTest (tOp rNotN ta tb)) := et_cmp op_notN vop_notN ha hb (nomark _)
/-- an expression whose value is a truth, as a test -/
theorem et_val (h : EvE W X e f ta) (he : ∀ whole, isTrue e X.env whole = (do let v ← whole; standAt e.pos; holding [v] (truthy v)) := by intro _; rfl) : EvT W X e (sTest f) (tTest ta) :=
  let ⟨pa, sa⟩ := h
  ⟨pt_val pa he, sim_test sa⟩
theorem et_w (h : EvW W X e s tp) : EvT W X e s tp :=
  let ⟨pa, sa⟩ := h
  ⟨pa.pt, sa⟩
theorem et_not (h : EvT W X a s tp) : EvT W X (.UnaryOp .Not a pos) (sNot s) (tNot tp) :=
  let ⟨pa, sa⟩ := h
  ⟨pt_not pa, sim_not sa⟩
theorem ew_and1 (h : EvT W X a s tp) : EvW W X (.BoolOp .And [a] pos) s tp :=
  let ⟨pa, sa⟩ := h
  ⟨pw_and1 pa, sa⟩
theorem ew_or1 (h : EvT W X a s tp) : EvW W X (.BoolOp .Or [a] pos) s tp :=
  let ⟨pa, sa⟩ := h
  ⟨pw_or1 pa, sa⟩
theorem ew_and {rest : List Expr} (h : EvT W X a s tp) (h2 : EvW W X (.BoolOp .And (b :: rest) pos) u tq) : EvW W X (.BoolOp .And (a :: b :: rest) pos) (sAnd s u) (tAnd tp tq) :=
  let ⟨pa, sa⟩ := h
  let ⟨pb, sb⟩ := h2
  ⟨pw_and pa pb, sim_and sa sb⟩
theorem ew_or {rest : List Expr} (h : EvT W X a s tp) (h2 : EvW W X (.BoolOp .Or (b :: rest) pos) u tq) : EvW W X (.BoolOp .Or (a :: b :: rest) pos) (sOr s u) (tOr tp tq) :=
  let ⟨pa, sa⟩ := h
  let ⟨pb, sb⟩ := h2
  ⟨pw_or pa pb, sim_or sa sb⟩
theorem sim_chain {W : Wd} {p q : Int → Int → Bool} {r r' : R2} {ta tb tc : TE} (hr : ∀ i j H Q, Q (.bl (p i j)) H → r (.int i) (.int j) H Q) (hr' : ∀ i j H Q, Q (.bl (q i j)) H → r' (.int i) (.int j) H Q) (ha : SimE W ta f) (hb : SimE W tb g) (hc : SimE W tc h) :
    SimE W (tChain r r' ta tb tc) (sChain p q f g h) := by
  intro ρ σ H F G As rv ρ' Q S e k
  unfold sChain at e
  split at e
  case h_2 => cases e
  rename_i m i ρ1 e1
  split at e
  case h_2 => cases e
  rename_i m2 j ρ2 e2
  refine ha ρ σ H F G As _ _ _ S e1 fun v H1 G1 As1 B1 p1 rep1 t1 o1 => ?_
  obtain ⟨rfl, rfl⟩ := rep_int rep1
  refine hb _ σ H1 F G1 As1 _ _ _ p1.st e2 fun v2 H2 G2 As2 B2 p2 rep2 t2 o2 => ?_
  obtain ⟨rfl, rfl⟩ := rep_int rep2
  refine hr _ _ _ _ ⟨p i j, rfl, ?_⟩
  have P := p1.trans S p2
  cases hp : p i j with
  | false =>
    rw [hp] at e
    cases e
    exact iteF (k _ H2 G2 As2 [] P (.bl _ _) tmp_nil fun _ z => nomatch z)
  | true =>
    rw [hp] at e
    simp only [if_true] at e
    split at e
    case h_2 => cases e
    rename_i m3 l ρ3 e3
    cases e
    refine iteT ?_
    refine hc _ σ H2 F G2 As2 _ _ _ p2.st e3 fun v3 H3 G3 As3 B3 p3 rep3 t3 o3 => ?_
    obtain ⟨rfl, rfl⟩ := rep_int rep3
    exact hr' _ _ _ _ (k _ H3 G3 As3 [] (P.trans S p3) (.bl _ _) tmp_nil fun _ z => nomatch z)
theorem et_leLt {d : Expr} (ha : EvE W X a f ta) (hb : EvE W X b g tb) (hc : EvE W X d h tc) (hm : lastMarks [.LtE, .Lt] [b, d] = false := by with_unfolding_all rfl) : EvT W X (.Compare a [.LtE, .Lt] [b, d] pos) (sTest (sChain (fun i j => decide (i ≤ j)) (fun i j => decide (i < j)) f g h)) (tTest (tChain (rI0 fun i j => .bl (decide (i ≤ j))) (rI0 fun i j => .bl (decide (i < j))) ta tb tc)) :=
  let ⟨pa, sa⟩ := ha
  let ⟨pb, sb⟩ := hb
  let ⟨pc, sc⟩ := hc
  ⟨pt_chain op_le op_lt pa pb pc hm, sim_test (sim_chain (fun i j H Q q => ⟨i, j, rfl, rfl, q⟩) (fun i j H Q q => ⟨i, j, rfl, rfl, q⟩) sa sb sc)⟩
theorem ea_nil : EvA W X [] sNil tNil := ⟨pa_nil, sim_nil⟩
theorem ea_cons (ha : EvE W X e f ta) (hr : EvA W X es fs tA) (hs : starEach (e :: es) X.env = (false, eval e X.env) :: starEach es X.env := by rfl) : EvA W X (e :: es) (sCons f fs) (tCons ta tA) :=
  let ⟨pa, sa⟩ := ha
  let ⟨pb, sb⟩ := hr
  ⟨pa_cons pa pb hs, sim_cons sa sb⟩
theorem ev_tup {k : Nat} (h : EvA W X es fs tA) : EvE W X (.Tuple es k pos) (sApp opTup fs) (tTup tA) :=
  let ⟨pa, sa⟩ := h
  ⟨pe_tup pa, sim_app (rr := rTup) sa vop_tup⟩
theorem ev_lst (h : EvA W X es fs tA) : EvE W X (.List es pos) (sApp opLst fs) (tLst tA) :=
  let ⟨pa, sa⟩ := h
  ⟨pe_lst pa, sim_app (rr := rLst) sa vop_lst⟩
theorem ev_idx (ha : EvE W X a f ta) (hb : EvE W X b g tb) (hs : PlainIx b := by exact fun _ _ => rfl) (hK : X.K = W.K := by rfl) : EvE W X (.Subscript a b pos) (sApp2 opIdx f g) (tOp (rIx W.K) ta tb) :=
  let ⟨pa, sa⟩ := ha
  let ⟨pb, sb⟩ := hb
  ⟨pe_ix (hK ▸ ix_seq) pa pb hs, sim_app2 sa sb vop_idx⟩
theorem ev_blt {id : String} {r : RV} {o : List Val → Option Val} (hc : CallR X (.builtin id) r) (ho : VOp W r o) (hg : Gl X x) (hm : X.mg x = none) (hv : bootBuiltins x = some (.builtin id)) (ha : EvA W X (e :: es) fs tA) (hn : x ≠ "__name__" := by decide) (hdb : (x == ("__debug__" : Str)) = false := by decide)
    (he : starEach (e :: es) X.env = (false, eval e X.env) :: starEach es X.env := by rfl) (hpl : (backTo pos (starEach es X.env)).any (·.1) = false := by rfl) : EvE W X (.Call (.Name x p) (e :: es) [] pos) (sApp o fs) (tCB r tA) :=
  let ⟨pa, sa⟩ := ha
  ⟨pe_callB hc hg hm hv pa hn hdb he hpl, sim_app sa ho⟩
theorem ev_bty {T : String} {r : RV} {o : List Val → Option Val} (hc : CallR X (.type T) r) (ho : VOp W r o) (hg : Gl X x) (hm : X.mg x = none) (hv : bootBuiltins x = some (.type T)) (ha : EvA W X (e :: es) fs tA) (hn : x ≠ "__name__" := by decide) (hdb : (x == ("__debug__" : Str)) = false := by decide)
    (he : starEach (e :: es) X.env = (false, eval e X.env) :: starEach es X.env := by rfl) (hpl : (backTo pos (starEach es X.env)).any (·.1) = false := by rfl) : EvE W X (.Call (.Name x p) (e :: es) [] pos) (sApp o fs) (tCB r tA) :=
  let ⟨pa, sa⟩ := ha
  ⟨pe_callTy hc hg hm hv pa hn hdb he hpl, sim_app sa ho⟩
theorem ev_len (hg : Gl X "len") (hm : X.mg "len" = none) (ha : EvA W X (e :: es) fs tA) (he : starEach (e :: es) X.env = (false, eval e X.env) :: starEach es X.env := by rfl) (hpl : (backTo pos (starEach es X.env)).any (·.1) = false := by rfl) (hK : X.K = W.K := by rfl) :
    EvE W X (.Call (.Name "len" p) (e :: es) [] pos) (sApp opLen fs) (tCB (rLen W.K) tA) := ev_blt (hK ▸ call_len) vop_len hg hm (by decide +kernel) ha (by decide) (by decide) he hpl
theorem ev_abs (hg : Gl X "abs") (hm : X.mg "abs" = none) (ha : EvA W X (e :: es) fs tA) (he : starEach (e :: es) X.env = (false, eval e X.env) :: starEach es X.env := by rfl) (hpl : (backTo pos (starEach es X.env)).any (·.1) = false := by rfl) :
    EvE W X (.Call (.Name "abs" p) (e :: es) [] pos) (sApp opAbs fs) (tCB rAbs tA) := ev_blt call_abs vop_abs hg hm (by decide +kernel) ha (by decide) (by decide) he hpl
theorem ev_max2 (hc : X.calm = true) (hg : Gl X "max") (hm : X.mg "max" = none) (ha : EvA W X (e :: es) fs tA) (he : starEach (e :: es) X.env = (false, eval e X.env) :: starEach es X.env := by rfl) (hpl : (backTo pos (starEach es X.env)).any (·.1) = false := by rfl) :
    EvE W X (.Call (.Name "max" p) (e :: es) [] pos) (sApp opMax2 fs) (tCB rMax2 tA) := ev_blt (call_max2 hc) vop_max2 hg hm (by decide +kernel) ha (by decide) (by decide) he hpl
theorem ev_min2 (hc : X.calm = true) (hg : Gl X "min") (hm : X.mg "min" = none) (ha : EvA W X (e :: es) fs tA) (he : starEach (e :: es) X.env = (false, eval e X.env) :: starEach es X.env := by rfl) (hpl : (backTo pos (starEach es X.env)).any (·.1) = false := by rfl) :
    EvE W X (.Call (.Name "min" p) (e :: es) [] pos) (sApp opMin2 fs) (tCB rMin2 tA) := ev_blt (call_min2 hc) vop_min2 hg hm (by decide +kernel) ha (by decide) (by decide) he hpl
theorem ev_list1 (hg : Gl X "list") (hm : X.mg "list" = none) (ha : EvA W X (e :: es) fs tA) (he : starEach (e :: es) X.env = (false, eval e X.env) :: starEach es X.env := by rfl) (hpl : (backTo pos (starEach es X.env)).any (·.1) = false := by rfl) (hK : X.K = W.K := by rfl) :
    EvE W X (.Call (.Name "list" p) (e :: es) [] pos) (sApp opList fs) (tCB (rListOf W.K) tA) := ev_bty (hK ▸ call_list_of) vop_list hg hm (by decide +kernel) ha (by decide) (by decide) he hpl
theorem spPure_call {W : Wd} {n : Nat} {o : List D → Option Val} {E : XK} (hn : ∀ ds, (o ds).isSome = true → ds.length = n) : VOp W (fun vs H Q => spPure (W0 W.K W.cls) n o (vs ++ []) H Q E) (opFn o) := by
  obtain ⟨K, cl, pn⟩ := W
  intro H G rs vs A r Q gh rep nd ga e k
  rw [List.append_nil]
  exact spPure_pin <| spPure_op hn H G rs vs A r Q gh rep nd ga e k
/-- a call of a def -/
theorem ev_call {k n : Nat} {fa : Addr} {fd : FuncData} {ps : List Str} {o : List D → Option Val} (F : FnOk X.prog X.w X.K X.mg X.base CX0 k fa fd ps (spPure (W0 W.K W.cls) n o)) (hn : ∀ ds, (o ds).isSome = true → ds.length = n) (hr : Room k X.A) (hg : Gl X x) (hm : X.mg x = some (.ref fa)) (hk : PySem.W.keepIn X.K (.ref fa) = true) (hb : Binds X.K fd ps [])
    (ha : EvA W X (e :: es) fs tA) (hdb : (x == ("__debug__" : Str)) = false := by decide) (he : starEach (e :: es) X.env = (false, eval e X.env) :: starEach es X.env := by rfl) (hpl : (backTo pos (starEach es X.env)).any (·.1) = false := by rfl) :
    EvE W X (.Call (.Name x p) (e :: es) [] pos) (sApp (opFn o) fs) (tCall (spPure (W0 W.K W.cls) n o) [] E0 tA) :=
  let ⟨pa, sa⟩ := ha
  ⟨pe_call F hr hg hm hk hb .nil pass0 pa hdb he hpl, sim_app (rr := fun vs H Q => spPure (W0 W.K W.cls) n o (vs ++ []) H Q E0) sa (spPure_call hn)⟩
theorem ei_seq {tg : Expr} (h : EvE W X e f ta) (hK : X.K = W.K := by rfl) : EvI W X tg e (iSq f) (iSeq W.K ta) := ⟨hK ▸ pi_seq h.1, sim_isq h.2⟩
theorem ei_rng1 {tg a : Expr} (hg : Gl X "range") (hm : X.mg "range" = none) (ha : EvA W X [a] fs tA) (hs : starEach [a] X.env = [(false, eval a X.env)] := by rfl) : EvI W X tg (.Call (.Name "range" p) [a] [] pos) (iRange1 fs) (iRng1 tA) :=
  let ⟨pa, sa⟩ := ha
  ⟨pi_range1 hg hm pa hs, sim_rng1 sa⟩
theorem ei_rng2 {tg a b : Expr} (hg : Gl X "range") (hm : X.mg "range" = none) (ha : EvA W X [a, b] fs tA) (hs : starEach [a, b] X.env = [(false, eval a X.env), (false, eval b X.env)] := by rfl) (hs2 : starEach [b] X.env = [(false, eval b X.env)] := by rfl) : EvI W X tg (.Call (.Name "range" p) [a, b] [] pos) (iRange2 fs) (iRng2 tA) :=
  let ⟨pa, sa⟩ := ha
  ⟨pi_range2 hg hm pa hs hs2, sim_rng2 sa⟩
theorem ei_rng3 {tg a b d : Expr} (hg : Gl X "range") (hm : X.mg "range" = none) (ha : EvA W X [a, b, d] fs tA) (hs : starEach [a, b, d] X.env = (false, eval a X.env) :: starEach [b, d] X.env := by rfl) (hpl : (backTo pos (starEach [b, d] X.env)).any (·.1) = false := by rfl) : EvI W X tg (.Call (.Name "range" p) [a, b, d] [] pos) (iRange3 fs) (iRng3 tA) :=
  let ⟨pa, sa⟩ := ha
  ⟨pi_range3 hg hm pa hs hpl, sim_rng3 sa⟩
theorem ei_enum {elts : List Expr} {kk : Nat} {tpos : Pos} (hg : Gl X "enumerate") (hm : X.mg "enumerate" = none) (ha : EvA W X [e] fs tA) (hs : starEach [e] X.env = [(false, eval e X.env)] := by rfl) (hK : X.K = W.K := by rfl) : EvI W X (.Tuple elts kk tpos) (.Call (.Name "enumerate" p) [e] [] pos) (iEnu fs) (iEnum W.K tA) :=
  let ⟨pa, sa⟩ := ha
  ⟨hK ▸ pi_enum hg hm pa hs, sim_ienu sa⟩
theorem eg_name (i : Nat) {ws : List Nat} (hN : X.N.Nodup) (hi : X.N[i]? = some x := by rfl) (hx : Loc X.env.scope x := by first | exact Or.inl rfl | exact Or.inr rfl) (hf : X.fn x = true ∨ X.env.scope.names.lookup x = some .local := by first | exact .inl rfl | exact .inr rfl) (hw : i ∈ ws := by simp) (hpin : W.pin i = false := by rfl) : EvG W X ws (.Name x pos) (sGName i) (gName i) :=
  ⟨pg_name hN hi hx hf, sim_gname i hw hpin⟩
theorem egs_nil {ws : List Nat} : EvGs W X ws [] 0 sGNil gNil := ⟨⟨pgs_nil, sim_gnil⟩, gnil_len⟩
theorem egs_cons {ws : List Nat} {gf : STg} {gfs : List D → Mode → Env → Option Env} {n : Nat} (h1 : EvG W X ws e gf tg0) (h2 : EvGs W X ws es n gfs tgs) (hs : (assignEach (e :: es) X.env).map (·.2) = assign e X.env :: (assignEach es X.env).map (·.2) := by rfl) : EvGs W X ws (e :: es) (n + 1) (sGCons gf gfs) (gCons tg0 tgs) :=
  let ⟨pa, sa⟩ := h1
  let ⟨⟨pb, sb⟩, l⟩ := h2
  ⟨⟨pgs_cons pa pb hs, sim_gcons sa sb⟩, gcons_len l⟩
theorem eg_tup {ws : List Nat} {k n : Nat} {gfs : List D → Mode → Env → Option Env} (hc : X.calm = true) (h : EvGs W X ws es n gfs tgs) (hn : (assignEach es X.env).length = n := by rfl) (hst : (assignEach es X.env).findIdx? (·.1) = none := by rfl) (hK : X.K = W.K := by rfl) : EvG W X ws (.Tuple es k pos) (sGTup gfs) (gTup W.K n tgs) :=
  let ⟨⟨pb, sb⟩, l⟩ := h
  ⟨hK ▸ pg_tup hc pb hn hst, sim_gtup sb l⟩
abbrev EvF (W : Wd) (X : Cx) (es : List Expr) (f : SB) (t : TT) : Prop := PTs X es t ∧ SimT W t f
theorem ef_nil : EvF W X [] sYes tYes := ⟨pts_nil, sim_yes⟩
theorem ef_one (h : EvT W X e s tp) : EvF W X [e] s tp := ⟨pts_one h.1, h.2⟩
theorem eb_nil : EvB W X [] sSkip tNext := ⟨pss_nil, sim_skip⟩
variable {st : Stmt} {rest : List Stmt} {sf sg : SS}
theorem eb_one (h : EvS W X st sf tS) : EvB W X [st] sf tS :=
  let ⟨pa, sa⟩ := h
  ⟨pss_one pa, sa⟩
theorem eb_cons (h : EvS W X st sf tS) (h2 : EvB W X rest sg tU) : EvB W X (st :: rest) (sSeq sf sg) (tSeq tS tU) :=
  let ⟨pa, sa⟩ := h
  let ⟨pb, sb⟩ := h2
  ⟨pss_cons pa pb, sim_seq sa sb⟩
theorem es_set (i : Nat) {pos' : Pos} (hN : X.N.Nodup) (he : EvE W X e f ta) (hi : X.N[i]? = some x := by rfl) (hx : Loc X.env.scope x := by first | exact Or.inl rfl | exact Or.inr rfl) (hs : swapsWith e (some (.Name x pos')) pos.line X.env = pure false := by rfl) (hf : X.fn x = true ∨ X.env.scope.names.lookup x = some .local := by first | exact .inl rfl | exact .inr rfl)
    (hpin : W.pin i = false := by rfl) : EvS W X (.Assign [.Name x pos'] e pos) (sSet i f) (tAsg ta (gName i)) :=
  let ⟨pa, sa⟩ := he
  ⟨ps_set hN hi hx pa hs hf, sim_set sa hpin⟩
theorem es_asg {tg : Expr} {gf : STg} {ws : List Nat} (he : EvE W X e f ta) (hg : EvG W X ws tg gf tg0) (hs : swapsWithSole [tg] e pos.line X.env = pure false := by rfl) (hw : swappedStores [tg] e X.env = pure none := by rfl) (h1 : (assignEach [tg] X.env).map (·.2) = [assign tg X.env] := by rfl) : EvS W X (.Assign [tg] e pos) (sAsg gf f) (tAsg ta tg0) :=
  let ⟨pa, sa⟩ := he
  let ⟨pb, sb⟩ := hg
  ⟨ps_asg pa pb hs hw h1, sim_asg sa sb⟩
theorem es_par (i j : Nat) {x y : Str} {px py pt : Pos} {kt k2 pt2} (hc : X.calm = true) (hN : X.N.Nodup) (ha : EvA W X [a, b] fs tA) (hi : X.N[i]? = some x := by rfl) (hj : X.N[j]? = some y := by rfl) (hij : i ≠ j := by decide)
    (hx : X.env.scope.names.lookup x = some .local := by rfl) (hy : X.env.scope.names.lookup y = some .local := by rfl)
    (hw : swappedStores [.Tuple [.Name x px, .Name y py] kt pt] (.Tuple [a, b] k2 pt2) X.env = pure (some [x, y]) := by rfl)
    (hs : swapsWithSole [.Tuple [.Name x px, .Name y py] kt pt] (.Tuple [a, b] k2 pt2) pos.line X.env = pure false := by rfl)
    (hpin : W.pin i = false := by rfl) (hpin2 : W.pin j = false := by rfl) : EvS W X (.Assign [.Tuple [.Name x px, .Name y py] kt pt] (.Tuple [a, b] k2 pt2) pos) (sPar i j fs) (tPar i j tA) :=
  let ⟨pa, sa⟩ := ha
  ⟨ps_par hc hN hi hj hij hx hy pa hw hs, sim_par sa hpin hpin2⟩
def opAddI : List Val → Option Val
  | [⟨_, .int a⟩, ⟨_, .int b⟩] => some ⟨.O, .int (a + b)⟩
  | _ => none
theorem es_append (i : Nat) {apos : Pos} (he : EvE W X a f ta) (hN : X.N[i]? = some x := by rfl) (hv : Vis X.env.scope x := by first | exact Or.inl rfl | exact Or.inr (Or.inl rfl) | exact Or.inr (Or.inr rfl)) (hd : (x == ("__debug__" : Str)) = false := by decide)
    (hcd : (x == ("__classdict__" : Str)) = false := by decide) (hbase : attributeBase (.Name x p) "append" X.env (eval (.Name x p) X.env) = eval (.Name x p) X.env := by rfl)
    (hfew : ((backTo pos (starEach (a :: []) X.env)).all (fun x => !x.1) && (backToKw pos (keywordEach [] X.env)).all (fun x => x.1.isSome)
      && decide ((a :: []).length + ([] : List Keyword).length + (if ([] : List Keyword).isEmpty then 0 else 1) < 30)) = true := by rfl)
    (hline : (apos.endLine == pos.line) = true := by rfl) (hs : starEach (a :: []) X.env = (false, eval a X.env) :: starEach [] X.env := by rfl) (hplain : (backTo pos (starEach [] X.env)).any (·.1) = false := by rfl)
    {pos2 : Pos} (hsw : swapsWith (.Call (.Attribute (.Name x p) "append" apos) [a] [] pos) none pos2.line X.env = pure false := by rfl) (hK : X.K = W.K := by rfl) :
    EvS W X (.Expr (.Call (.Attribute (.Name x p) "append" apos) [a] [] pos) pos2) (sApnd i f) (tDrop (tBM W.K "list" rAppend (tVar i) (tCons ta tNil))) :=
  let ⟨pa, sa⟩ := he
  ⟨ps_expr (hK ▸ pe_bm PySem.F.plainAttrs_list PySem.F.slot_list_append PySem.F.type_list_append mt_append (pe_var hN hv hd hcd) (pa_cons pa pa_nil hs) hbase hfew hline hs hplain) hsw, sim_apnd sa⟩
theorem eg_sub {ws : List Nat} (i : Nat) (hb : EvE W X b g tb) (hN : X.N[i]? = some x := by rfl) (hv : Vis X.env.scope x := by first | exact Or.inl rfl | exact Or.inr (Or.inl rfl) | exact Or.inr (Or.inr rfl)) (hd : (x == ("__debug__" : Str)) = false := by decide)
    (hcd : (x == ("__classdict__" : Str)) = false := by decide) (ha : ∀ v, assign (.Subscript (.Name x p) b pos) X.env v = (do
      let ov ← holding [v] (eval (.Name x p) X.env)
      let iv ← holding [v, ov] (eval b X.env)
      standAt pos
      holding [v, ov, iv] (setItem ov iv v)
      release [v, ov, iv] []) := by intro _; rfl) : EvG W X ws (.Subscript (.Name x p) b pos) (sGSub i g) (gSub (tVar i) tb rSetL) :=
  let ⟨pb, sb⟩ := hb
  ⟨pg_sub (pe_var hN hv hd hcd) pb set_list ha, sim_gsub sb⟩
theorem es_ret (he : EvE W X e f ta) : EvS W X (.Return (some e) pos) (sRet f) (tRet ta) :=
  let ⟨pa, sa⟩ := he
  ⟨ps_ret pa, sim_ret sa⟩
theorem es_if {t : Expr} {p q : List Stmt} (ht : EvT W X t s tp) (ha : EvB W X p sf tS) (hb : EvB W X q sg tU) : EvS W X (.If t p q pos) (sIf s sf sg) (tIfS tp tS tU) :=
  let ⟨pt, st⟩ := ht
  let ⟨pa, sa⟩ := ha
  let ⟨pb, sb⟩ := hb
  ⟨ps_if pt pa pb, sim_if st sa sb⟩
theorem es_while {t : Expr} {p : List Stmt} (hp : PassesOwn (model X.prog X.w) X.A X.env X.xe) (ht : EvT W X t s tp) (ha : EvB W X p sf tS) : EvS W X (.While t p [] pos) (sWhile s sf) (tWhile tp tS) :=
  let ⟨pt, st⟩ := ht
  let ⟨pa, sa⟩ := ha
  ⟨ps_while hp pt pa, sim_while st sa⟩
theorem es_for {tg iter : Expr} {p : List Stmt} {src : SI} {gf : STg} {ws : List Nat} (hp : PassesOwn (model X.prog X.w) X.A X.env X.xe) (hc : X.calm = true) (hi : EvI W X tg iter src tw) (hg : EvG W X ws tg gf tg0) (hb : EvB W X p sf tS) (hs : ∀ x, foldedSetIterable iter X.env x = pure x := by intro _; rfl) : EvS W X (.For tg iter p [] pos) (sFor src gf sf) (tFor tw tg0 tS) :=
  let ⟨pi, si⟩ := hi
  let ⟨pg, sg⟩ := hg
  let ⟨pb, sb⟩ := hb
  ⟨ps_for hp hc pi pg pb hs, sim_for si sg sb⟩
end
section
variable {W : Wd} {X : Cx} {pos : Pos}
theorem ev_lc {elt tg iter : Expr} {ifs : List Expr} {scope : Scope} {own : List (Str × Nat)} {src : SI} {gf : STg} {tf : SB} {f : SE} {wi : TI} {g : TG} {tt : TT} {te : TE} (ls es : List Nat) (hc : X.calm = true) (hN : X.N.Nodup) (hi : EvI W X tg iter src wi) (ok : BlkOk X.N X.env.scope scope own)
    (hg : ∀ (s : Shared) (H : Hp) (C : Addr) (cl : List (Str × Addr)) (fp : List Addr), EvG W (X.blk s H scope (compEnvC scope cl C X.env) fp) (own.map (·.2)) tg gf g) (ht : ∀ (s : Shared) (H : Hp) (C : Addr) (cl : List (Str × Addr)) (fp : List Addr), EvF W (X.blk s H scope (compEnvC scope cl C X.env) fp) ifs tf tt) (he : ∀ (s : Shared) (H : Hp) (C : Addr) (cl : List (Str × Addr)) (fp : List Addr), EvE W (X.blk s H scope (compEnvC scope cl C X.env) fp) elt f te) (hs : ∀ x, foldedSetIterable iter X.env x = pure x := by intro _; rfl) (hpin : (own.map (·.2)).all (fun i => !W.pin i) = true := by rfl) :
    EvE W X (.ListComp elt [⟨tg, iter, ifs, 0⟩] scope pos) (sLc ls es (own.map (·.2)) src gf tf f) (tLc wi g tt te (own.map (·.2))) :=
  ⟨pe_lc hc hN hi.1 ok (fun s H C cl fp => (hg s H C cl fp).1) (fun s H C cl fp => (ht s H C cl fp).1) (fun s H C cl fp => (he s H C cl fp).1) hs,
    sim_lc (fun i h => by simpa using List.all_eq_true.mp hpin i h) hi.2 (hg X.s_0 X.H_0 0 [] []).2 (ht X.s_0 X.H_0 0 [] []).2 (he X.s_0 X.H_0 0 [] []).2⟩
theorem es_setLc (i : Nat) {y : Str} {py spos : Pos} {elt tg iter : Expr} {ifs : List Expr} {scope : Scope} {own : List (Str × Nat)} {src : SI} {gf : STg} {tf : SB} {f : SE} {wi : TI} {g : TG} {tt : TT} {te : TE} (ls es : List Nat) (hc : X.calm = true) (hN : X.N.Nodup)
    (hsw : swapsWith (.ListComp elt [⟨tg, iter, ifs, 0⟩] scope pos) (some (.Name y py)) spos.line X.env = pure true) (hi : EvI W X tg iter src wi) (ok : BlkOk X.N X.env.scope scope own)
    (hg : ∀ (s : Shared) (H : Hp) (C : Addr) (cl : List (Str × Addr)) (fp : List Addr), EvG W (X.blk s H scope (compEnvC scope cl C X.env) fp) (own.map (·.2)) tg gf g) (ht : ∀ (s : Shared) (H : Hp) (C : Addr) (cl : List (Str × Addr)) (fp : List Addr), EvF W (X.blk s H scope (compEnvC scope cl C X.env) fp) ifs tf tt) (he : ∀ (s : Shared) (H : Hp) (C : Addr) (cl : List (Str × Addr)) (fp : List Addr), EvE W (X.blk s H scope (compEnvC scope cl C X.env) fp) elt f te) (hy : X.N[i]? = some y := by rfl) (hyl : X.env.scope.names.lookup y = some .local := by rfl) (hs : ∀ x, foldedSetIterable iter X.env x = pure x := by intro _; rfl) (hpin : (own.map (·.2)).all (fun i => !W.pin i) = true := by rfl) (hpin0 : W.pin i = false := by rfl) :
    EvS W X (.Assign [.Name y py] (.ListComp elt [⟨tg, iter, ifs, 0⟩] scope pos) spos) (sSet i (sLc ls es (own.map (·.2)) src gf tf f)) (tAsg (tLc wi g tt te (own.map (·.2))) (gName i)) :=
  ⟨ps_setLc hc hN hy hyl hsw hi.1 ok (fun s H C cl fp => (hg s H C cl fp).1) (fun s H C cl fp => (ht s H C cl fp).1) (fun s H C cl fp => (he s H C cl fp).1) hs,
    sim_set (sim_lc (fun i h => by simpa using List.all_eq_true.mp hpin i h) hi.2 (hg X.s_0 X.H_0 0 [] []).2 (ht X.s_0 X.H_0 0 [] []).2 (he X.s_0 X.H_0 0 [] []).2) hpin0⟩
end
section
variable {P : Program} {w : World} {K : PySem.W.Frag} {mg : Str → Option Value} {base : Heap} {c : Cl}
theorem ev_fn {x qual : Str} {st : Stmt} {f : Addr} {fd : FuncData} {N ps : List Str} {k np n : Nat} {b : SS} {m : List D → Option Val} (F : Fun K x qual st f fd) (S : FnScope N ps (defScope st)) (hp : ps.length = np) (hN : N.length = n) (hm : m = fnSem np n b)
    (hb : ∀ (cdv : Value) (A : Around) (outer : List PySem.Env) (s : Shared) (H : Hp) (E : XK), Room k (A.deeper (PyProof.Rows.envOfC qual (defScope st) s.heap.objs.size f cdv)) → ∃ t b', EvB (W0 K c) (cxOf CX0 P w K mg base N qual (defScope st) f cdv A outer s H E).nox (defBody st) b' t ∧ b' = b) :
    FnOk P w K mg base CX0 (k + 1) f fd ps (spPure (W0 K c) np m) := by
  subst hp hN hm
  refine F.ok S spPure_len (fun cdv A outer s H vs Q E hr hsp => ?_)
  obtain ⟨t, b', ⟨ht, hs⟩, rfl⟩ := hb cdv A outer s H E hr
  have hl : ps.length ≤ N.length := by
    have e := congrArg List.length S.pre
    rw [List.length_take] at e
    lia
  exact ⟨t, ht, body_ok hs hl hsp⟩
end
end Tr
namespace Tr
open PySem L2
inductive Pth where
  | base
  | ix (b : Pth) (g : SE)
  | fd (b : Pth) (cs : List String) (f : Str)
def ixD : D → Int → Option (Nat × D)
  | .lst xs, k => (ixN xs.length k).bind fun j => (xs[j]?).map fun d => (j, d)
  | .tup xs, k => (ixN xs.length k).bind fun j => (xs[j]?).map fun d => (j, d)
  | _, _ => none
def pEv : Pth → D → Env → Option (List Pst × D × Env)
  | .base, d, ρ => some ([], d, ρ)
  | .ix b g, d, ρ =>
    match pEv b d ρ with
    | some (p, d1, ρ1) =>
      match g ρ1 with
      | some (⟨_, .int k⟩, ρ2) =>
        match ixD d1 k with
        | some (j, d2) => some (p ++ [.ix j], d2, restore ρ1 ρ2)
        | none => none
      | _ => none
    | none => none
  | .fd b cs f, d, ρ =>
    match pEv b d ρ with
    | some (p, .ins c fs, ρ1) => if cs.contains c = true then (fdGet fs f).map fun d2 => (p ++ [.fd f], d2, ρ1) else none
    | _ => none
/-- within slot j's thing, from the value that slot i has -/
def SimR (W : Wd) (j i : Nat) (tb : TE) (pe : Pth) : Prop :=
  ∀ (ρ : Env) (σ : L2.St) (H F G : Hp) (As : Nat → List Addr) (d d0 : D) (v w0 : V) (p0 pth : List Pst) (d1 : D) (ρ' : Env) (Q : VK), Sta W ρ σ H F G As → ρ[j]? = some (some ⟨.O, true, d⟩) → σ[i]? = some (some w0) → Foc W H F (As j) d v p0 w0 d0 → pEv pe d0 ρ = some (pth, d1, ρ') →
    (∀ w H' G' As', Post W ρ σ H F G As ρ' H' G' As' → Foc W H' F (As' j) d v (p0 ++ pth) w d1 → Q w H') → tb σ H Q
def SimP (W : Wd) (i : Nat) (tb : TE) (pe : Pth) : Prop := SimR W i i tb pe
section
variable {W : Wd} {ρ ρ' ρ1 ρ2 : Env} {σ σ' σ1 σ2 : L2.St} {H F G H' F' G' H1 F1 G1 H2 F2 G2 : Hp} {As As' As1 As2 : Nat → List Addr} {B : List Addr}
theorem simR_base (j i : Nat) : SimR W j i (tVar i) .base := by
  intro ρ σ H F G As d d0 v w0 p0 pth d1 ρ' Q S hs hw foc e k
  simp only [pEv, Option.some.injEq, Prod.mk.injEq] at e
  obtain ⟨rfl, rfl, rfl⟩ := e
  exact ⟨w0, hw, k w0 H G As (Post.refl S) (by rw [List.append_nil]; exact foc)⟩
theorem simP_base (i : Nat) : SimP W i (tVar i) .base := simR_base i i
theorem Foc.post {i : Nat} {d d1 : D} {v w : V} {pth : List Pst} (S : Sta W ρ σ H F G As) (hs : ρ[i]? = some (some ⟨.O, true, d⟩)) (p : Post W ρ σ H F G As ρ' H' G' As') (h : Foc W H F (As i) d v pth w d1) : Foc W H' F (As' i) d v pth w d1 := by
  have ea := (p.lk i _ hs rfl).2
  rw [ea]
  refine h.mono (fun a ha o e => p.keep a o e fun ⟨j, s, e1, e2, e3⟩ => ?_) (p.tups S)
  have := S.dj j i a e3 ha
  subst this
  rw [hs] at e1
  cases e1
  cases e2
theorem simR_ix {j i : Nat} {tb tg : TE} {pe : Pth} {g : SE} (hb : SimR W j i tb pe) (hg : SimE W tg g) : SimR W j i (tOp (rIx W.K) tb tg) (.ix pe g) := by
  intro ρ σ H F G As d d0' v w0 p0' pth d1 ρ' Q S hs hw foc0 e k
  unfold pEv at e
  split at e
  case h_2 => cases e
  rename_i p0 d0 ρ1 e1
  split at e
  case h_2 => cases e
  rename_i mk kk ρ2 e2
  split at e
  case h_2 => cases e
  rename_i jx d2 e3
  simp only [Option.some.injEq, Prod.mk.injEq] at e
  obtain ⟨rfl, rfl, rfl⟩ := e
  refine hb ρ σ H F G As d _ v _ _ _ _ _ _ S hs hw foc0 e1 fun w H1 G1 As1 p1 foc => ?_
  refine hg ρ1 σ H1 F G1 As1 _ _ _ p1.st e2 fun x H2 G2 As2 B2 p2 rep t org => ?_
  have ex : x = .int kk := by cases rep; rfl
  subst ex
  have hs1 := (p1.lk _ _ hs rfl).1
  have foc2 := foc.post p1.st hs1 p2
  have p3 := p2.restore p1.st
  have pp := p1.trans S p3
  cases d0 with
  | lst xs =>
    simp only [ixD] at e3
    cases ej : ixN xs.length kk with
    | none => rw [ej] at e3; cases e3
    | some jj =>
      rw [ej] at e3
      simp only [Option.bind_some] at e3
      cases ex : xs[jj]? with
      | none => rw [ex] at e3; cases e3
      | some dj =>
        rw [ex] at e3
        simp only [Option.map_some, Option.some.injEq, Prod.mk.injEq] at e3
        obtain ⟨rfl, rfl⟩ := e3
        obtain ⟨l, vs, rfl, hl, hz, f⟩ := foc2.lst
        obtain ⟨u, eu, fu⟩ := f _ _ ex
        exact .inl ⟨l, vs, kk, u, rfl, rfl, SqL.of hl, atI_of (by rw [hz]; exact ej) eu, k u H2 _ _ pp (by rw [← List.append_assoc]; exact fu)⟩
  | tup xs =>
    simp only [ixD] at e3
    cases ej : ixN xs.length kk with
    | none => rw [ej] at e3; cases e3
    | some jj =>
      rw [ej] at e3
      simp only [Option.bind_some] at e3
      cases ex : xs[jj]? with
      | none => rw [ex] at e3; cases e3
      | some dj =>
        rw [ex] at e3
        simp only [Option.map_some, Option.some.injEq, Prod.mk.injEq] at e3
        obtain ⟨rfl, rfl⟩ := e3
        obtain ⟨l, vs, rfl, hl, hz, f⟩ := foc2.tup
        obtain ⟨u, eu, fu⟩ := f _ _ ex
        exact .inr (.inl ⟨l, vs, kk, u, rfl, rfl, hl, atI_of (by rw [hz]; exact ej) eu, k u H2 _ _ pp (by rw [← List.append_assoc]; exact fu)⟩)
  | _ => cases e3
theorem simP_ix {i : Nat} {tb tg : TE} {pe : Pth} {g : SE} (hb : SimP W i tb pe) (hg : SimE W tg g) : SimP W i (tOp (rIx W.K) tb tg) (.ix pe g) := simR_ix hb hg
/-- an own slot is locked -/
theorem lock_post {i : Nat} {d : D} (S : Sta W ρ σ H F G As) (hs : ρ[i]? = some (some ⟨.O, false, d⟩)) (hd : d.flat = false) :
    ∃ G' As', Post W ρ σ H F G As (ρ.set i (some ⟨.O, true, d⟩)) H G' As' := by
  have e : sVar i ρ = some (⟨.F, d⟩, ρ.set i (some ⟨.O, true, d⟩)) := by
    unfold sVar
    rw [hs]
    simp [hd]
  obtain ⟨v, _, q⟩ := sim_var (W := W) i ρ σ H F G As _ _ (fun v H' => H' = H → ∃ G' As', Post W ρ σ H F G As (ρ.set i (some ⟨.O, true, d⟩)) H G' As') S e fun v H' G' As' B p _ _ _ h => by
    subst h
    exact ⟨G', As', p⟩
  exact q rfl
theorem path_end {i : Nat} {d : D} {v w : V} {pth : List Pst} {xs : List D} (S : Sta W ρ σ H F F As) (n : NoLk ρ) (hs : ρ[i]? = some (some ⟨.O, false, d⟩)) (p : Post W ρ σ H F F As ρ2 H2 G2 As2) (h2 : ρ2[i]? = some (some ⟨.O, true, d⟩)) (hv : σ[i]? = some (some v))
    (foc : Foc W H2 F (As2 i) d v pth w (.lst xs)) (t : Tmp W σ H2 G2 As2 B) :
    Step W [] ρ σ H F As (restore ρ ρ2) σ H2 F As2 ∧ ∃ l vs A1, w = .ref l ∧ H2 l = some (.lst vs) ∧ Reps W H2 F .O xs vs A1 ∧ A1.Nodup ∧ (∀ a ∈ A1, a ∉ B) ∧
      ∀ (ys : List D) (us : List V) (C : List Addr), Reps W H2 F .O ys us C → C.Nodup → (∀ a ∈ C, a ∈ A1 ∨ a ∈ B) →
        ∃ As3, Step W B (restore ρ ρ2) σ H2 F As2 ((restore ρ ρ2).set i (some ⟨.O, false, d.put pth (.lst ys)⟩)) σ (upd H2 l (.lst us)) F As3 := by
  have p' := p.restore S
  have nl := restore_nolk S n p
  have q := test_step (b := true) S n p' nl
  have t' : Tmp W σ H2 F As2 B := t.back p.gg
  obtain ⟨A0, A1, A2, h1, hA, h3, h4⟩ := foc
  have hs' : (restore ρ ρ2)[i]? = some (some ⟨.O, false, d⟩) := by
    rw [restore_get _ _ (S.len.trans p.st.len.symm), hs, h2]
    rfl
  cases h3 with
  | lstO hl r =>
    rename_i l vs B1
    have nd := q.st.nd i
    have li : l ∈ As2 i := by rw [hA]; simp
    have nd2 := nd
    rw [hA] at nd2
    have n0 := List.nodup_append.mp nd2
    have n1 := List.nodup_append.mp n0.2.1
    have n2 := List.nodup_cons.mp n1.1
    have dB : ∀ a ∈ B, a ∉ As2 i := fun a ha => t'.a a ha i
    refine ⟨q, l, vs, B1, rfl, hl, r, n2.2, fun a ha hb => dB a hb (by rw [hA]; simp [ha]), fun ys us C rC nC sub => ?_⟩
    have hlC : l ∉ C := fun z => by
      rcases sub l z with y | y
      · exact n2.1 y
      · exact dB l y li
    have r2 := upd_reps (o := .lst us) q.st nl hs' li rC hlC
    have r3 := Rep.lstO (a := l) (upd_same (H := H2) (o := .lst us)) r2
    have kp : Kp W H2 (upd H2 l (.lst us)) (A0 ++ A2) := ⟨q.st.tup fun a o e z => by rw [upd_ne (fun y : a = l => z ⟨i, _, hs', rfl, y ▸ li⟩)]; exact e, fun a ha o e => by
      rw [upd_ne]
      · exact e
      · rintro rfl
        rcases List.mem_append.mp ha with z | z
        · exact n0.2.2 a z a (by simp) rfl
        · exact n1.2.2 a (by simp) a z rfl⟩
    have r4 := h4 _ _ _ r3 kp
    refine ⟨_, upd_ok q.st nl t' hs' hv li hl r4 ?_ fun a ha => ?_⟩
    · refine List.nodup_append.mpr ⟨n0.1, List.nodup_append.mpr ⟨List.nodup_cons.mpr ⟨hlC, nC⟩, n1.2.1, fun a ha b hb z => ?_⟩, fun a ha b hb z => ?_⟩
      · subst z
        rcases List.mem_cons.mp ha with rfl | y
        · exact n1.2.2 a (by simp) a hb rfl
        · rcases sub a y with y | y
          · exact n1.2.2 a (by simp [y]) a hb rfl
          · exact dB a y (by rw [hA]; simp [hb])
      · subst z
        rcases List.mem_append.mp hb with y | y
        · rcases List.mem_cons.mp y with rfl | y
          · exact n0.2.2 a ha a (by simp) rfl
          · rcases sub a y with y | y
            · exact n0.2.2 a ha a (by simp [y]) rfl
            · exact dB a y (by rw [hA]; simp [ha])
        · exact n0.2.2 a ha a (by simp [y]) rfl
    · rcases List.mem_append.mp ha with y | y
      · exact .inl (by rw [hA]; simp [y])
      · rcases List.mem_append.mp y with y | y
        · rcases List.mem_cons.mp y with rfl | y
          · exact .inl li
          · rcases sub a y with y | y
            · exact .inl (by rw [hA]; simp [y])
            · exact .inr y
        · exact .inl (by rw [hA]; simp [y])
/-- base[..].append(e) -/
noncomputable def sApndP (i : Nat) (pe : Pth) (f : SE) : SS := fun ρ =>
  match ρ[i]? with
  | some (some ⟨.O, false, d⟩) =>
    if d.flat then none else
    match pEv pe d (ρ.set i (some ⟨.O, true, d⟩)) with
    | some (p, .lst xs, ρ1) =>
      match f ρ1 with
      | some (r, ρ2) => if r.m = .O ∧ ok (xs.length < sizeLine) = true then some (.nx ((restore ρ ρ2).set i (some ⟨.O, false, d.put p (.lst (xs ++ [r.d]))⟩))) else none
      | none => none
    | _ => none
  | _ => none
theorem get_set_same {i : Nat} {x y : Option Slot} (h : ρ[i]? = some x) : (ρ.set i y)[i]? = some y := by
  have := lt_of_get h
  simp [this]
/-- base[..][k] as a target -/
noncomputable def sGSubP (i : Nat) (pe : Pth) (g : SE) : STg := fun r ρ =>
  match ρ[i]? with
  | some (some ⟨.O, false, d⟩) =>
    if d.flat then none else
    match pEv pe d (ρ.set i (some ⟨.O, true, d⟩)) with
    | some (p, .lst xs, ρ1) =>
      match g ρ1 with
      | some (⟨_, .int k⟩, ρ2) =>
        match ixN xs.length k with
        | some j => if r.m = .O then some ((restore ρ ρ2).set i (some ⟨.O, false, d.put p (.lst (xs.set j r.d))⟩)) else none
        | none => none
      | _ => none
    | _ => none
  | _ => none
/-- base[..][k] op= e, of ints -/
noncomputable def sAugP (i : Nat) (pe : Pth) (op : Int → Int → Int) (g f : SE) : SS := fun ρ =>
  match ρ[i]? with
  | some (some ⟨.O, false, d⟩) =>
    if d.flat then none else
    match pEv pe d (ρ.set i (some ⟨.O, true, d⟩)) with
    | some (p, .lst xs, ρ1) =>
      match g ρ1 with
      | some (⟨_, .int k⟩, ρ2) =>
        match ixN xs.length k with
        | some j =>
          match xs[j]?, f (restore ρ1 ρ2) with
          | some (.int old), some (⟨_, .int y⟩, ρ3) => some (.nx ((restore ρ ρ3).set i (some ⟨.O, false, d.put p (.lst (xs.set j (.int (op old y))))⟩)))
          | _, _ => none
        | none => none
      | _ => none
    | _ => none
  | _ => none
theorem sim_augP {i : Nat} {op : Int → Int → Int} {tb ti te : TE} {pe : Pth} {g f : SE} (hb : SimP W i tb pe) (hg : SimE W ti g) (hf : SimE W te f) : SimS W (tAugS tb ti te (rIxL W.K) (ipI op) rSetL) (sAugP i pe op g f) := by
  intro ρ σ H F As D out S n e k
  unfold sAugP at e
  split at e
  case h_2 => cases e
  rename_i d hs
  split at e
  · cases e
  rename_i hd
  split at e
  case h_2 => cases e
  rename_i pth xs ρ1 e1
  split at e
  case h_2 => cases e
  rename_i mk kk ρ2 e2
  split at e
  case h_2 => cases e
  rename_i j hj
  split at e
  case h_2 => cases e
  rename_i old my y ρ3 eo e3
  cases e
  obtain ⟨G0, As0, p0⟩ := lock_post S hs (by simpa using hd)
  have hs0 := get_set_same (y := some ⟨.O, true, d⟩) hs
  obtain ⟨v0, hv, rv⟩ := p0.st.slot i _ hs0
  refine hb _ σ H F G0 As0 d d v0 v0 [] _ _ _ _ p0.st hs0 hv (Foc.base rv) e1 fun w H1 G1 As1 p1 foc => ?_
  rw [List.nil_append] at foc
  refine hg ρ1 σ H1 F G1 As1 _ _ _ p1.st e2 fun x H2 G2 As2 B2 p2 rx tx org => ?_
  have ex : x = .int kk := by cases rx; rfl
  subst ex
  have hs1 := (p1.lk i _ hs0 rfl).1
  have p2' := p2.restore p1.st
  have hs2 := (p2'.lk i _ hs1 rfl).1
  have foc2 := foc.post p1.st hs1 p2'
  obtain ⟨l, vs, rfl, hl, hz, fk⟩ := foc2.lst
  obtain ⟨u, eu, fu⟩ := fk _ _ eo
  have eu2 : u = .int old := by
    obtain ⟨_, _, _, _, _, r, _⟩ := fu
    cases r; rfl
  subst eu2
  refine ⟨l, vs, kk, _, rfl, rfl, SqL.of hl, atI_of (by rw [hz]; exact hj) eu, ?_⟩
  refine hf _ σ H2 F G1 As2 _ _ _ p2'.st e3 fun z H3 G3 As3 B3 p3 rz tz orgz => ?_
  have ez : z = .int y := by cases rz; rfl
  subst ez
  refine ⟨old, y, rfl, rfl, ?_⟩
  have hs3 := (p3.lk i _ hs2 rfl).1
  have foc3 := foc2.post p2'.st hs2 p3
  have pp := p0.trans S (p1.trans p0.st (p2'.trans p1.st p3))
  obtain ⟨q, l', vs', A1, hw, hl', rr, nA, dA, fin⟩ := path_end (B := []) S n hs pp hs3 hv foc3 tmp_nil
  cases hw
  have hjx : j < xs.length := (ixN_seq hj).2.1
  obtain ⟨C, r1, n1, s1⟩ := reps_set (Rep.int (W := W) (H := H3) (G := F) .O (op old y)) List.nodup_nil rr hjx nA (fun _ _ z => nomatch z)
  obtain ⟨As4, st⟩ := fin _ _ _ r1 n1 s1
  exact ⟨l, vs', kk, j, rfl, rfl, hl', by rw [← rr.len]; exact hj, k _ _ _ _ (q.trans st fun _ z => nomatch z)⟩
end
end Tr
namespace Tr
open PySem L2
section
variable {W : Wd} {ρ ρ' ρ1 ρ2 : Env} {σ σ' σ1 σ2 : L2.St} {H F G H' F' G' H1 F1 G1 H2 F2 G2 : Hp} {As As' As1 As2 : Nat → List Addr} {B : List Addr}
theorem forget_step (i : Nat) (S : Sta W ρ σ H F F As) (n : NoLk ρ) : Step W [] ρ σ H F As (ρ.set i none) σ H F (fun j => if j = i then [] else As j) := by
  have get : ∀ (j : Nat) (u : Slot), (ρ.set i none)[j]? = some (some u) → j ≠ i ∧ ρ[j]? = some (some u) := fun j u h => by
    rw [get_set] at h
    split at h
    · cases h
    · rename_i q
      by_cases z : j = i
      · subst z
        have := lt_of_get h
        exact absurd ⟨rfl, this⟩ q
      · exact ⟨z, h⟩
  have sb : ∀ j a, a ∈ (fun j => if j = i then [] else As j) j → j ≠ i ∧ a ∈ As j := fun j a h => by
    by_cases q : j = i
    · simp [q] at h
    · simp only [if_neg q] at h; exact ⟨q, h⟩
  have nl : NoLk (ρ.set i none) := fun j u h => n j u (get j u h).2
  refine ⟨⟨by rw [List.length_set]; exact S.len, fun j s h => ?_, fun j s h q => ?_, fun j s h q a ha => S.free j s (get j s h).2 q a (sb j a ha).2, fun j h => ?_, fun j => ?_, fun j1 j2 a h1 h2 => S.dj j1 j2 a (sb _ _ h1).2 (sb _ _ h2).2, fun j a h => S.fo j a (sb _ _ h).2, S.fg, S.gh⟩, nl, fun _ _ e _ _ => e, fun _ e => e, Same.refl _, fun _ e q => absurd e q, fun j a h => .inr (.inl ⟨j, (sb _ _ h).2⟩), fun _ _ h => h, rfl, fun _ _ => rfl⟩
  · obtain ⟨q, e⟩ := get j s h
    obtain ⟨v, hv, r⟩ := S.slot j s e
    exact ⟨v, hv, by simp only [if_neg q]; exact r⟩
  · rw [nl j s h] at q; cases q
  · by_cases q : j = i
    · simp [q]
    · simp only [if_neg q]
      exact S.none j fun u z => h u (by rw [List.getElem?_set_ne (Ne.symm q)]; exact z)
  · by_cases q : j = i
    · simp [q]
    · simp only [if_neg q]; exact S.nd j
theorem fill_step {i : Nat} {x : V} (hp : W.pin i = false) (S : Sta W ρ σ H F F As) (n : NoLk ρ) (h : ∀ s, ρ[i]? ≠ some (some s)) : Step W [] ρ σ H F As ρ (σ.set i (some x)) H F As :=
  ⟨⟨by rw [List.length_set]; exact S.len, fun j s e => by
      obtain ⟨v, hv, r⟩ := S.slot j s e
      refine ⟨v, ?_, r⟩
      rw [List.getElem?_set_ne]
      · exact hv
      · rintro rfl
        exact h s e, S.lock, S.free, S.none, S.nd, S.dj, S.fo, S.fg, S.gh⟩, n, fun _ _ e _ _ => e, fun _ e => e, Same.refl _, fun _ e q => absurd e q, fun j a h => .inr (.inl ⟨j, h⟩), fun _ _ h => h, by rw [List.length_set], fun j hj => by
    rw [List.getElem?_set_ne]
    rintro rfl
    rw [hp] at hj
    cases hj⟩
end
end Tr
namespace Tr
open PySem L2
section
variable {W : Wd} {H G H' G' : Hp} {v u : V} {A B C : List Addr}
def opTuple : List Val → Option Val
  | [⟨_, .lst xs⟩] => if D.flats xs then some ⟨.O, .tup xs⟩ else some ⟨.F, .tup xs⟩
  | [⟨m, .tup xs⟩] => some ⟨m, .tup xs⟩
  | _ => none
end
end Tr
namespace Tr
open PySem L2 RZ
abbrev EvP (W : Wd) (X : Cx) (i : Nat) (e : Expr) (pe : Pth) (t : TE) : Prop := PE X e t ∧ SimP W i t pe
section
variable {W : Wd} {X : Cx} {e a b o : Expr} {pos p : Pos} {f g : SE} {x : Str} {ta tb to : TE} {pe : Pth} {i : Nat}
theorem ep_name (i : Nat) {x : Str} {pos : Pos} (hN : X.N[i]? = some x := by rfl) (hv : Vis X.env.scope x := by first | exact Or.inl rfl | exact Or.inr (Or.inl rfl) | exact Or.inr (Or.inr rfl)) (hd : (x == ("__debug__" : Str)) = false := by decide)
    (hcd : (x == ("__classdict__" : Str)) = false := by decide) : EvP W X i (.Name x pos) .base (tVar i) := ⟨pe_var hN hv hd hcd, simP_base i⟩
theorem ep_ix (ho : EvP W X i o pe to) (hb : EvE W X b g tb) (hs : PlainIx b := by exact fun _ _ => rfl) (hK : X.K = W.K := by rfl) : EvP W X i (.Subscript o b pos) (.ix pe g) (tOp (rIx W.K) to tb) :=
  let ⟨po, so⟩ := ho
  let ⟨pb, sb⟩ := hb
  ⟨pe_ix (hK ▸ ix_seq) po pb hs, simP_ix so sb⟩
theorem es_augPAdd {tpos : Pos} (ho : EvP W X i o pe to) (hb : EvE W X b g tb) (he : EvE W X a f ta) (ha : ∀ ov iv new, augStore b ov iv new = (do holding [new, ov, iv] (setItem ov iv new); release [new, ov, iv] []; pure Flow.next) := by intros; rfl) (hK : X.K = W.K := by rfl) :
    EvS W X (.AugAssign (.Subscript o b tpos) .Add a pos) (sAugP i pe (fun i j => i + j) g f) (tAugS to tb ta (rIxL W.K) (ipI fun i j => i + j) rSetL) :=
  let ⟨po, so⟩ := ho
  let ⟨pb, sb⟩ := hb
  let ⟨pa, sa⟩ := he
  ⟨hK ▸ ps_augS po pb pget_list pa ip_add set_list ha, sim_augP so sb sa⟩
end
end Tr
namespace Tr
open PySem L2 RZ
/-- a world whose slot 0 is pinned -/
abbrev W1 (K : PySem.W.Frag) (c : String → Addr) : Wd := ⟨K, c, fun i => i == 0⟩
structure IOPost (W : Wd) (H G : Hp) (A : List Addr) (v0 : V) (d' : D) (r : Val) (v : V) (H' G' : Hp) (A' B : List Addr) : Prop where
  keep : ∀ a o, H a = some o → a ∉ A → H' a = some o
  dom : ∀ a, H' a = none → H a = none
  gg : Same G G'
  gh : Same G' H'
  gn : ∀ a, G a = none → G' a ≠ none → H a = none ∨ a ∈ A
  tp : ∀ a vs, SqT W.K H a vs → SqT W.K H' a vs
  rep : Rep W H' G' r.m r.d v B
  nd : B.Nodup
  bg : ∀ b ∈ B, G' b = none
  bn : ∀ b ∈ B, H b = none ∨ b ∈ A
  rep0 : Rep W H' G' .O d' v0 A'
  nd0 : A'.Nodup
  ag : ∀ a ∈ A', G' a = none
  an : ∀ a ∈ A', H a = none ∨ a ∈ A
  dj : ∀ b ∈ B, b ∉ A'
def spIO (W : Wd) (n : Nat) (g : List D → Option (Val × D)) : Sp := fun vs H Q _ =>
  ∃ d ds v0 vs' A G r d', ds.length + 1 = n ∧ vs = v0 :: vs' ∧ Same G H ∧ Rep W H G .O d v0 A ∧ A.Nodup ∧ (∀ a ∈ A, G a = none) ∧ Reps W H G .F ds vs' [] ∧ g (d :: ds) = some (r, d') ∧
    ∀ v H' G' A' B, IOPost W H G A v0 d' r v H' G' A' B → Q v H'
theorem spIO_len {W : Wd} {n : Nat} {g : List D → Option (Val × D)} : ∀ vs H Q E, spIO W n g vs H Q E → vs.length = n := by
  rintro vs H Q E ⟨d, ds, v0, vs', A, G, r, d', hl, rfl, _, _, _, _, rp, _⟩
  rw [List.length_cons, ← rp.len]
  exact hl
noncomputable def startIO (n : Nat) : List D → Env
  | [] => []
  | d :: ds => some ⟨.O, false, d⟩ :: (ds.map (fun d => some (par d)) ++ List.replicate (n - (ds.length + 1)) none)
def own0 (r : Val) (ρ : Env) : Option (Val × D) :=
  match ρ[(0 : Nat)]? with
  | some (some ⟨.O, false, d⟩) => some (r, d)
  | _ => none
theorem own0_eq {r r1 : Val} {d : D} {ρ : Env} (h : own0 r ρ = some (r1, d)) : r1 = r ∧ ρ[(0 : Nat)]? = some (some ⟨.O, false, d⟩) := by
  unfold own0 at h
  split at h
  · rename_i e
    cases h
    exact ⟨rfl, e⟩
  · cases h
noncomputable def fnSemIO (np n : Nat) (b : SS) : List D → Option (Val × D) := fun ds =>
  if ds.length = np then
    match b (startIO n ds) with
    | some (.rt r ρ) => own0 r ρ
    | some (.nx ρ) => own0 ⟨.O, .non⟩ ρ
    | _ => none
  else none
section
variable {W : Wd} {ρ ρ' ρ1 ρ2 : Env} {σ σ' σ1 σ2 : L2.St} {H F G H' F' G' H1 F1 G1 H2 F2 G2 : Hp} {As As' As1 As2 : Nat → List Addr} {B : List Addr}
theorem startIO_sta {N : List Str} {d : D} {ds : List D} {v0 : V} {vs : List V} {A : List Addr} (hl : ds.length + 1 ≤ N.length) (gh : Same G H) (r0 : Rep W H G .O d v0 A) (nd : A.Nodup) (ag : ∀ a ∈ A, G a = none) (rp : Reps W H G .F ds vs []) :
    Sta W (startIO N.length (d :: ds)) (L2.start N (v0 :: vs)) H G G (fun i => if i = 0 then A else []) ∧ NoLk (startIO N.length (d :: ds)) := by
  have el := rp.len
  have get : ∀ (i : Nat) (s : Slot), (startIO N.length (d :: ds))[i]? = some (some s) → (i = 0 ∧ s = ⟨.O, false, d⟩) ∨ ∃ j e, i = j + 1 ∧ ds[j]? = some e ∧ s = par e := fun i s h => by
    cases i with
    | zero => cases h; exact .inl ⟨rfl, rfl⟩
    | succ j =>
      refine .inr ⟨j, ?_⟩
      rw [startIO, List.getElem?_cons_succ] at h
      by_cases q : j < ds.length
      · rw [List.getElem?_append_left (by simpa using q), List.getElem?_map] at h
        refine ⟨ds[j], rfl, by simp [q], ?_⟩
        rw [List.getElem?_eq_getElem q] at h
        simp at h
        exact h.symm
      · rw [List.getElem?_append_right (by simpa using q)] at h
        rw [List.getElem?_replicate] at h
        split at h <;> cases h
  have nl : NoLk (startIO N.length (d :: ds)) := fun i s h => by
    rcases get i s h with ⟨_, rfl⟩ | ⟨_, _, _, _, rfl⟩ <;> rfl
  have as0 : ∀ i a, a ∈ (fun i => if i = 0 then A else []) i → i = 0 ∧ a ∈ A := fun i a h => by
    by_cases q : i = 0
    · simp only [if_pos q] at h; exact ⟨q, h⟩
    · simp only [if_neg q] at h; cases h
  refine ⟨⟨?_, fun i s h => ?_, fun i s h l => ?_, fun i s h l a ha => ag a (as0 i a ha).2, fun i h => ?_, fun i => ?_, fun i j a h1 h2 => (as0 i a h1).1.trans (as0 j a h2).1.symm, fun i a h => ag a (as0 i a h).2, Same.refl _, gh⟩, nl⟩
  · unfold startIO L2.start
    simp only [List.length_append, List.length_map, List.length_replicate, List.length_cons]
    rw [el]
    lia
  · rcases get i s h with ⟨rfl, rfl⟩ | ⟨j, e, rfl, he, rfl⟩
    · exact ⟨v0, rfl, r0⟩
    · obtain ⟨v, hv, r⟩ := reps_get rp rfl he
      refine ⟨v, ?_, ?_⟩
      · unfold L2.start
        rw [List.map_cons, List.cons_append, List.getElem?_cons_succ]
        have q : j < vs.length := lt_of_get hv
        rw [List.getElem?_append_left (by simpa using q), List.getElem?_map, hv]
        rfl
      · simp only [if_neg (Nat.succ_ne_zero j)]
        exact rep_par r
  · rw [nl i s h] at l; cases l
  · by_cases q : i = 0
    · subst q
      exact absurd rfl (h ⟨.O, false, d⟩)
    · exact if_neg q
  · by_cases q : i = 0
    · simp only [if_pos q]; exact nd
    · simp only [if_neg q]; exact List.nodup_nil
end
section
variable {K : PySem.W.Frag} {c : String → Addr}
theorem IOPost.pin {p q : Nat → Bool} {H G : Hp} {A : List Addr} {v0 : V} {d' : D} {r : Val} {v : V} {H' G' : Hp} {A' B : List Addr} (z : IOPost ⟨K, c, p⟩ H G A v0 d' r v H' G' A' B) : IOPost ⟨K, c, q⟩ H G A v0 d' r v H' G' A' B :=
  ⟨z.keep, z.dom, z.gg, z.gh, z.gn, z.tp, z.rep.pin, z.nd, z.bg, z.bn, z.rep0.pin, z.nd0, z.ag, z.an, z.dj⟩
theorem bodyIO_ok {N : List Str} {t : TS} {b : SS} {vs : List V} {Q : VK} {E : XK} {n : Nat} (hb : SimS (W1 K c) t b) (hn : n ≤ N.length) (h : spIO (W0 K c) n (fnSemIO n N.length b) vs H Q E) : t { nx := fun _ H' => Q .non H', rt := Q } (L2.start N vs) H := by
  obtain ⟨d, ds, v0, vs', A, G, r, d', hl, rfl, gh, r0, nd, ag, rp, e, k⟩ := h
  obtain ⟨S, nl⟩ := startIO_sta (W := W1 K c) (N := N) (by lia) gh r0.pin nd ag rp.pin
  have as0 : ∀ i a, a ∈ (fun i => if i = 0 then A else []) i → i = 0 ∧ a ∈ A := fun i a h => by
    by_cases q : i = 0
    · simp only [if_pos q] at h; exact ⟨q, h⟩
    · simp only [if_neg q] at h; cases h
  have to0 : ∀ a, (∃ i, a ∈ (fun i => if i = 0 then A else []) i) → a ∈ A := fun a ⟨i, h⟩ => (as0 i a h).2
  have in0 : ∀ a, a ∉ A → ∀ i, a ∉ (fun i => if i = 0 then A else []) i := fun a h i z => h (as0 i a z).2
  have unl0 : ∀ a, ¬ Unl (startIO N.length (d :: ds)) (fun i => if i = 0 then A else []) a → a ∉ A := fun a h z => h ⟨0, ⟨.O, false, d⟩, rfl, rfl, z⟩
  unfold fnSemIO at e
  rw [if_pos (by simpa using hl)] at e
  split at e
  · rename_i r1 ρ1 e1
    obtain ⟨rfl, e2⟩ := own0_eq e
    refine hb _ _ H G _ _ _ S nl e1 ?_
    intro v σ' H' F' G' As' B q
    obtain ⟨u, hu, ru⟩ := q.st.slot 0 _ e2
    have eu : u = v0 := by
      rw [q.pn 0 rfl] at hu
      cases hu
      rfl
    subst eu
    refine k v H' G' (As' 0) B ⟨fun a o e n => q.keep a o e (in0 a n), q.dom, q.fg, q.st.gh, fun a e n => (q.gn a e n).imp_right (to0 a), S.tup fun a o e n => q.keep a o e (in0 a (unl0 a n)), q.rep.pin, q.tmp.nd, q.tmp.g, fun b hb => (q.org b hb).imp_right (to0 b), (ru.anyG rfl).pin, q.st.nd 0, fun a ha => q.st.free 0 _ e2 rfl a ha, fun a ha => (q.an 0 a ha).imp_right (to0 a), fun b hb => q.tmp.a b hb 0⟩
  · rename_i ρ1 e1
    obtain ⟨rfl, e2⟩ := own0_eq e
    refine hb _ _ H G _ _ _ S nl e1 ?_
    intro σ' H' F' As' q
    obtain ⟨u, hu, ru⟩ := q.st.slot 0 _ e2
    have eu : u = v0 := by
      rw [q.pn 0 rfl] at hu
      cases hu
      rfl
    subst eu
    have or3 : ∀ a, (H a = none ∨ (∃ j, a ∈ (fun i => if i = 0 then A else []) j) ∨ a ∈ ([] : List Addr)) → H a = none ∨ a ∈ A := fun a h => by
      rcases h with h | h | h
      · exact .inl h
      · exact .inr (to0 a h)
      · cases h
    refine k .non H' F' (As' 0) [] ⟨fun a o e n => q.keep a o e (in0 a n) (fun z => nomatch z), q.dom, q.ff, q.st.gh, fun a e n => or3 a (q.fn a e n), q.tp, .non _, List.nodup_nil, fun _ z => (nomatch z), fun _ z => (nomatch z), (ru.anyG rfl).pin, q.st.nd 0, fun a ha => q.st.free 0 _ e2 rfl a ha, fun a ha => or3 a (q.an 0 a ha), fun _ z => (nomatch z)⟩
  · cases e
theorem fnSemIO_len {np n : Nat} {b : SS} {ds : List D} (h : (fnSemIO np n b ds).isSome = true) : ds.length = np := by
  unfold fnSemIO at h
  split at h
  · assumption
  · cases h
/-- the list stands in slot i -/
noncomputable def sCallIO (i : Nat) (o : List D → Option (Val × D)) (fs : SA) : SE := sealE fun ρ =>
  match ρ[i]? with
  | some (some ⟨_, _, _⟩) =>
    match fs ρ with
    | some (rs, ρ1) =>
      match ρ1[i]? with
      | some (some ⟨.O, false, d⟩) =>
        match o (d :: rs.map (fun (x : Val) => x.d)) with
        | some (r, d') => some (r, ρ1.set i (some ⟨.O, false, d'⟩))
        | none => none
      | _ => none
    | none => none
  | _ => none
/-- the list is at hand, and is lost -/
noncomputable def sCallT (o : List D → Option (Val × D)) (f : SE) (fs : SA) : SE := sealE fun ρ =>
  match f ρ with
  | some (r0, ρ1) =>
    match fs ρ1 with
    | some (rs, ρ2) =>
      if r0.m = .O then
        match o (r0.d :: rs.map (fun (x : Val) => x.d)) with
        | some (r, _) => some (r, ρ2)
        | none => none
      else none
    | none => none
  | none => none
end
section
variable {W : Wd} {ρ ρ' ρ1 ρ2 : Env} {σ σ' σ1 σ2 : L2.St} {H F G H' F' G' H1 F1 G1 H2 F2 G2 : Hp} {As As' As1 As2 : Nat → List Addr} {B : List Addr}
theorem sim_callIO {i n : Nat} {o : List D → Option (Val × D)} {fs : SA} {ta : TA} {E : XK} (hn : ∀ ds, (o ds).isSome = true → ds.length = n) (ha : SimA W ta fs) :
    SimE W (tCB (fun vs H Q => spIO (W0 W.K W.cls) n o (vs ++ []) H Q E) (tCons (tVar i) ta)) (sCallIO i o fs) := by
  obtain ⟨K, cl, pn⟩ := W
  refine sim_seal ?_
  intro ρ σ H F G As r ρ' Q S e k
  simp only at e
  split at e
  case h_2 => cases e
  rename_i m0 l0 d0 hs0
  split at e
  case h_2 => cases e
  rename_i rs ρ1 e1
  split at e
  case h_2 => cases e
  rename_i d hs
  split at e
  case h_2 => cases e
  rename_i r2 d' e2
  cases e
  obtain ⟨v0, hv, _⟩ := S.slot i _ hs0
  refine ⟨v0, hv, ?_⟩
  refine ha _ σ H F G _ _ _ _ S e1 fun vs H1 G1 As1 B p rep t org => ?_
  obtain ⟨u, hu, r0⟩ := p.st.slot i _ hs
  rw [hv] at hu
  cases hu
  have li : i < ρ1.length := lt_of_get hs
  have unl : ∀ a ∈ As1 i, Unl ρ1 As1 a := fun a h => ⟨i, _, hs, rfl, h⟩
  have disB : ∀ a ∈ As1 i, a ∉ B := fun a h z => t.a a z i h
  have gA : ∀ a ∈ As1 i, G1 a = none := fun a h => p.st.free i _ hs rfl a h
  have s1 : Same G1 (lookAt G1 H1 B) := lookAt_same t.g
  have rf := rep.froze (G' := lookAt G1 H1 B) s1 fun a ha => lookAt_in ha
  have r1 : Rep ⟨K, cl, pn⟩ H1 (lookAt G1 H1 B) .O d v0 (As1 i) := r0.anyG rfl
  show spIO (W0 K cl) n o ((v0 :: vs) ++ []) H1 Q E
  rw [List.append_nil]
  have hlen := hn _ (by rw [e2]; rfl)
  refine ⟨d, rs.map fun (x : Val) => x.d, v0, vs, As1 i, lookAt G1 H1 B, _, d', by simpa using hlen, rfl, lookAt_sub p.st.gh, r1.pin, p.st.nd i, fun a h => ?_, rf.pin, e2, fun v H' G' A' B' q => ?_⟩
  · rw [lookAt_out (disB a h)]
    exact gA a h
  have q := q.pin (q := pn)
  have get : ∀ (j : Nat) (u : Slot), (ρ1.set i (some ⟨.O, false, d'⟩))[j]? = some (some u) → (j = i ∧ u = ⟨.O, false, d'⟩) ∨ (j ≠ i ∧ ρ1[j]? = some (some u)) := fun j u h => by
    rw [get_set] at h
    split at h
    · rename_i q
      cases h
      exact .inl ⟨q.1, rfl⟩
    · rename_i q
      by_cases z : j = i
      · exact absurd ⟨z, li⟩ q
      · exact .inr ⟨z, h⟩
  have sb2 : ∀ j a, a ∈ (fun j => if j = i then A' else As1 j) j → (j = i ∧ a ∈ A') ∨ (j ≠ i ∧ a ∈ As1 j) := fun j a h => by
    by_cases q : j = i
    · simp only [if_pos q] at h; exact .inl ⟨q, h⟩
    · simp only [if_neg q] at h; exact .inr ⟨q, h⟩
  have fg : Same F G' := (p.st.fg.trans s1).trans q.gg
  have keep1 : ∀ j, j ≠ i → ∀ a, a ∈ As1 j → ∀ o, H1 a = some o → H' a = some o := fun j hj a h o e => q.keep a o e fun z => hj (p.st.dj j i a h z)
  have new1 : ∀ j, j ≠ i → ∀ a, a ∈ As1 j → ¬ (H1 a = none ∨ a ∈ As1 i) := fun j hj a h z => by
    rcases z with z | z
    · obtain ⟨o, eo, _⟩ := p.st.own h
      rw [eo] at z; cases z
    · exact hj (p.st.dj j i a h z)
  have st : Sta ⟨K, cl, pn⟩ (ρ1.set i (some ⟨.O, false, d'⟩)) σ H' F G' (fun j => if j = i then A' else As1 j) := by
    refine ⟨by rw [List.length_set]; exact p.st.len, fun j s h => ?_, fun j s h l a ha => ?_, fun j s h l a ha => ?_, fun j h => ?_, fun j => ?_, fun j1 j2 a h1 h2 => ?_, fun j a h => ?_, fg, q.gh⟩
    · rcases get j s h with ⟨rfl, rfl⟩ | ⟨z, e⟩
      · refine ⟨v0, hv, ?_⟩
        simp only [if_pos]
        exact q.rep0.anyG rfl
      · obtain ⟨x, hx, rx⟩ := p.st.slot j s e
        refine ⟨x, hx, ?_⟩
        simp only [if_neg z]
        exact rx.mono q.tp (Same.refl _) (keep1 j z)
    · rcases get j s h with ⟨rfl, rfl⟩ | ⟨z, e⟩
      · cases l
      · simp only [if_neg z] at ha
        obtain ⟨o, eo, _⟩ := p.st.own ha
        have y := p.st.lock j s e l a ha
        rw [eo] at y
        rw [q.gg a o (s1 a o y), keep1 j z a ha o eo]
    · rcases sb2 j a ha with ⟨rfl, y⟩ | ⟨y, ha⟩
      · exact q.ag a y
      · rcases get j s h with ⟨rfl, rfl⟩ | ⟨z, e⟩
        · exact absurd rfl y
        · cases w : G' a with
          | none => rfl
          | some o =>
            refine absurd (q.gn a ?_ (by rw [w]; exact fun q => nomatch q)) (new1 j z a ha)
            rw [lookAt_out fun u => t.a a u j ha]
            exact p.st.free j s e l a ha
    · have z : j ≠ i := fun z => h ⟨.O, false, d'⟩ (by rw [z, List.getElem?_set_self li])
      simp only [if_neg z]
      exact p.st.none j fun u y => h u (by rw [List.getElem?_set_ne (Ne.symm z)]; exact y)
    · by_cases z : j = i
      · simp only [if_pos z]; exact q.nd0
      · simp only [if_neg z]; exact p.st.nd j
    · rcases sb2 j1 a h1 with ⟨x1, y1⟩ | ⟨x1, y1⟩ <;> rcases sb2 j2 a h2 with ⟨x2, y2⟩ | ⟨x2, y2⟩
      · exact x1.trans x2.symm
      · exact absurd (q.an a y1) (new1 j2 x2 a y2)
      · exact absurd (q.an a y2) (new1 j1 x1 a y1)
      · exact p.st.dj _ _ _ y1 y2
    · rcases sb2 j a h with ⟨_, y⟩ | ⟨_, y⟩
      · cases w : F a with
        | none => rfl
        | some o =>
          have := fg a o w
          rw [q.ag a y] at this
          cases this
      · exact p.st.fo j a y
  have toAs : ∀ a, (H1 a = none ∨ a ∈ As1 i) → H a = none ∨ ∃ j, a ∈ As j := fun a z => by
    rcases z with z | z
    · exact .inl (p.dom a z)
    · exact (p.an i a z).symm
  have toUnl : ∀ a, (H1 a = none ∨ a ∈ As1 i) → Unl ρ As a ∨ H a = none := fun a z => by
    rcases z with z | z
    · exact .inr (p.dom a z)
    · exact p.ul a (unl a z)
  refine k v H' G' _ B' ⟨st, fun a o e z => q.keep a o (p.keep a o e z) fun y => ?_, fun a e => p.dom a (q.dom a e), (p.gg.trans s1).trans q.gg, fun a e z => ?_, fun j a h => ?_, fun a ⟨j, s, h1, h2, h3⟩ => ?_, fun j s h l => ?_, fun j h => ?_⟩ q.rep ⟨q.nd, q.bg, fun b hb e => ?_, fun b hb j z => ?_⟩ fun b hb => toAs b (q.bn b hb)
  · rcases p.ul a (unl a y) with w | w
    · exact z w
    · rw [e] at w; cases w
  · cases w : G1 a with
    | some o => exact p.gn a e (by rw [w]; exact fun q => nomatch q)
    | none =>
      by_cases y : a ∈ B
      · exact org a y
      · exact toAs a (q.gn a (by rw [lookAt_out y]; exact w) z)
  · rcases sb2 j a h with ⟨_, y⟩ | ⟨_, y⟩
    · exact (toAs a (q.an a y)).symm
    · exact p.an j a y
  · rcases sb2 j a h3 with ⟨rfl, y⟩ | ⟨w, y⟩
    · exact toUnl a (q.an a y)
    · rw [List.getElem?_set_ne (Ne.symm w)] at h1
      exact p.ul a ⟨j, s, h1, h2, y⟩
  · obtain ⟨x1, x2⟩ := p.lk j s h l
    have z : j ≠ i := fun z => by rw [z, hs] at x1; cases x1; cases l
    refine ⟨by rw [List.getElem?_set_ne (Ne.symm z)]; exact x1, ?_⟩
    simp only [if_neg z]
    exact x2
  · have y := p.nw j h
    have z : j ≠ i := fun z => by rw [z, hs] at y; cases y
    rw [List.getElem?_set_ne (Ne.symm z)]
    exact y
  · obtain ⟨o, eo, _⟩ := q.rep.own b hb
    rw [eo] at e; cases e
  · rcases sb2 j b z with ⟨_, y⟩ | ⟨x, y⟩
    · exact q.dj b hb y
    · exact new1 j x b y (q.bn b hb)
theorem sim_callT {n : Nat} {o : List D → Option (Val × D)} {f : SE} {fs : SA} {te : TE} {ta : TA} {E : XK} (hn : ∀ ds, (o ds).isSome = true → ds.length = n) (hf : SimE W te f) (ha : SimA W ta fs) :
    SimE W (tCB (fun vs H Q => spIO (W0 W.K W.cls) n o (vs ++ []) H Q E) (tCons te ta)) (sCallT o f fs) := by
  obtain ⟨K, cl, pn⟩ := W
  refine sim_seal ?_
  intro ρ σ H F G As r ρ' Q S e k
  simp only at e
  split at e
  case h_2 => cases e
  rename_i r0 ρ0 e0
  split at e
  case h_2 => cases e
  rename_i rs ρ2 e1
  split at e
  case isFalse => cases e
  rename_i hm
  split at e
  case h_2 => cases e
  rename_i r2 d' e2
  cases e
  refine hf _ σ H F G _ _ _ _ S e0 fun v0 H0 G0 As0 A p0 rp0 t0 o0 => ?_
  refine ha _ σ H0 F G0 _ _ _ _ p0.st e1 fun vs H1 G1 As1 B p1 rep t1 o1 => ?_
  obtain ⟨t0', kA⟩ := p1.tmp p0.st t0
  have p := p0.trans S p1
  have disB : ∀ a ∈ A, a ∉ B := fun a h z => by
    rcases o1 a z with y | ⟨j, y⟩
    · exact t0.h a h y
    · exact t0.a a h j y
  have s1 : Same G1 (lookAt G1 H1 B) := lookAt_same t1.g
  have rf := rep.froze (G' := lookAt G1 H1 B) s1 fun a ha => lookAt_in ha
  obtain ⟨m0, d0⟩ := r0
  simp only at hm e2 rp0
  subst hm
  have r1 : Rep ⟨K, cl, pn⟩ H1 (lookAt G1 H1 B) .O d0 v0 A := (rp0.mono (p1.tups p0.st) (Same.refl _) kA).anyG rfl
  show spIO (W0 K cl) n o ((v0 :: vs) ++ []) H1 Q E
  rw [List.append_nil]
  have hlen := hn _ (by rw [e2]; rfl)
  refine ⟨d0, rs.map fun (x : Val) => x.d, v0, vs, A, lookAt G1 H1 B, _, d', by simpa using hlen, rfl, lookAt_sub p.st.gh, r1.pin, t0.nd, fun a h => ?_, rf.pin, e2, fun v H' G' A' B' q => ?_⟩
  · rw [lookAt_out (disB a h)]
    exact t0'.g a h
  have q := q.pin (q := pn)
  have fg : Same F G' := (p.st.fg.trans s1).trans q.gg
  have keep1 : ∀ j a, a ∈ As1 j → ∀ o, H1 a = some o → H' a = some o := fun j a h o e => q.keep a o e fun z => t0'.a a z j h
  have new1 : ∀ j a, a ∈ As1 j → ¬ (H1 a = none ∨ a ∈ A) := fun j a h z => by
    rcases z with z | z
    · obtain ⟨o, eo, _⟩ := p.st.own h
      rw [eo] at z; cases z
    · exact t0'.a a z j h
  have toAs : ∀ a, (H1 a = none ∨ a ∈ A) → H a = none ∨ ∃ j, a ∈ As j := fun a z => by
    rcases z with z | z
    · exact .inl (p.dom a z)
    · exact o0 a z
  have orgB : ∀ a ∈ B, H a = none ∨ ∃ j, a ∈ As j := fun a z => by
    rcases o1 a z with y | ⟨j, y⟩
    · exact .inl (p0.dom a y)
    · exact (p0.an j a y).symm
  have st : Sta ⟨K, cl, pn⟩ ρ' σ H' F G' As1 := by
    refine ⟨p.st.len, fun j s h => ?_, fun j s h l a ha => ?_, fun j s h l a ha => ?_, p.st.none, p.st.nd, p.st.dj, p.st.fo, fg, q.gh⟩
    · obtain ⟨x, hx, rx⟩ := p.st.slot j s h
      exact ⟨x, hx, rx.mono q.tp (Same.refl _) (keep1 j)⟩
    · obtain ⟨o, eo, _⟩ := p.st.own ha
      have y := p.st.lock j s h l a ha
      rw [eo] at y
      rw [q.gg a o (s1 a o y), keep1 j a ha o eo]
    · cases w : G' a with
      | none => rfl
      | some o =>
        refine absurd (q.gn a ?_ (by rw [w]; exact fun q => nomatch q)) (new1 j a ha)
        rw [lookAt_out fun u => t1.a a u j ha]
        exact p.st.free j s h l a ha
  have unlA : ∀ a ∈ A, ∀ o, H a = some o → Unl ρ As a := fun a h o e => by
    rcases o0 a h with y | ⟨j, y⟩
    · rw [e] at y; cases y
    · obtain ⟨s, hs⟩ := S.has y
      refine ⟨j, s, hs, ?_, y⟩
      cases l : s.lk with
      | false => rfl
      | true =>
        have z := S.lock j s hs l a y
        rw [e] at z
        have z := p0.gg a o z
        rw [t0.g a h] at z
        cases z
  refine k v H' G' _ B' ⟨st, fun a o e z => q.keep a o (p.keep a o e z) fun y => z (unlA a y o e), fun a e => p.dom a (q.dom a e), (p.gg.trans s1).trans q.gg, fun a e z => ?_, p.an, p.ul, p.lk, p.nw⟩ q.rep ⟨q.nd, q.bg, fun b hb e => ?_, fun b hb j z => new1 j b z (q.bn b hb)⟩ fun b hb => toAs b (q.bn b hb)
  · cases w : G1 a with
    | some o => exact p.gn a e (by rw [w]; exact fun q => nomatch q)
    | none =>
      by_cases y : a ∈ B
      · exact orgB a y
      · exact toAs a (q.gn a (by rw [lookAt_out y]; exact w) z)
  · obtain ⟨o, eo, _⟩ := q.rep.own b hb
    rw [eo] at e; cases e
end
section
variable {W : Wd} {X : Cx} {e : Expr} {es : List Expr} {pos p py : Pos} {fs : SA} {x y : Str} {tA : TA}
theorem ev_callIO {k n : Nat} {fa : Addr} {fd : FuncData} {ps : List Str} {o : List D → Option (Val × D)} (i : Nat) (F : FnOk X.prog X.w X.K X.mg X.base CX0 k fa fd ps (spIO (W0 W.K W.cls) n o)) (hn : ∀ ds, (o ds).isSome = true → ds.length = n) (hr : Room k X.A) (hg : Gl X x) (hm : X.mg x = some (.ref fa)) (hk : PySem.W.keepIn X.K (.ref fa) = true) (hb : Binds X.K fd ps [])
    (ha : EvA W X es fs tA) (hN : X.N[i]? = some y := by rfl) (hv : Vis X.env.scope y := by first | exact Or.inl rfl | exact Or.inr (Or.inl rfl) | exact Or.inr (Or.inr rfl)) (hd : (y == ("__debug__" : Str)) = false := by decide)
    (hcd : (y == ("__classdict__" : Str)) = false := by decide) (hdb : (x == ("__debug__" : Str)) = false := by decide) (he : starEach (.Name y py :: es) X.env = (false, eval (.Name y py) X.env) :: starEach es X.env := by rfl) (hpl : (backTo pos (starEach es X.env)).any (·.1) = false := by rfl) :
    EvE W X (.Call (.Name x p) (.Name y py :: es) [] pos) (sCallIO i o fs) (tCall (spIO (W0 W.K W.cls) n o) [] E0 (tCons (tVar i) tA)) :=
  let ⟨pa, sa⟩ := ha
  ⟨pe_call F hr hg hm hk hb .nil pass0 (pa_cons (pe_var hN hv hd hcd) pa he) hdb he hpl, sim_callIO hn sa⟩
theorem ev_callT {k n : Nat} {fa : Addr} {fd : FuncData} {ps : List Str} {o : List D → Option (Val × D)} {f : SE} {ta : TE} (F : FnOk X.prog X.w X.K X.mg X.base CX0 k fa fd ps (spIO (W0 W.K W.cls) n o)) (hn : ∀ ds, (o ds).isSome = true → ds.length = n) (hr : Room k X.A) (hg : Gl X x) (hm : X.mg x = some (.ref fa)) (hk : PySem.W.keepIn X.K (.ref fa) = true) (hb : Binds X.K fd ps [])
    (h0 : EvE W X e f ta) (ha : EvA W X es fs tA) (hdb : (x == ("__debug__" : Str)) = false := by decide) (he : starEach (e :: es) X.env = (false, eval e X.env) :: starEach es X.env := by rfl) (hpl : (backTo pos (starEach es X.env)).any (·.1) = false := by rfl) :
    EvE W X (.Call (.Name x p) (e :: es) [] pos) (sCallT o f fs) (tCall (spIO (W0 W.K W.cls) n o) [] E0 (tCons ta tA)) :=
  let ⟨p0, s0⟩ := h0
  let ⟨pa, sa⟩ := ha
  ⟨pe_call F hr hg hm hk hb .nil pass0 (pa_cons p0 pa he) hdb he hpl, sim_callT hn s0 sa⟩
end
section
variable {P : Program} {w : World} {K : PySem.W.Frag} {mg : Str → Option Value} {base : Heap} {c : Cl}
theorem ev_fnIO {x qual : Str} {st : Stmt} {f : Addr} {fd : FuncData} {N ps : List Str} {k np n : Nat} {b : SS} {m : List D → Option (Val × D)} (F : Fun K x qual st f fd) (S : FnScope N ps (defScope st)) (hp : ps.length = np) (hN : N.length = n) (hm : m = fnSemIO np n b)
    (hb : ∀ (cdv : Value) (A : Around) (outer : List PySem.Env) (s : Shared) (H : Hp) (E : XK), Room k (A.deeper (PyProof.Rows.envOfC qual (defScope st) s.heap.objs.size f cdv)) → ∃ t b', EvB (W1 K c) (cxOf CX0 P w K mg base N qual (defScope st) f cdv A outer s H E).nox (defBody st) b' t ∧ b' = b) :
    FnOk P w K mg base CX0 (k + 1) f fd ps (spIO (W0 K c) np m) := by
  subst hp hN hm
  refine F.ok S spIO_len (fun cdv A outer s H vs Q E hr hsp => ?_)
  obtain ⟨t, b', ⟨ht, hs⟩, rfl⟩ := hb cdv A outer s H E hr
  have hl : ps.length ≤ N.length := by
    have e := congrArg List.length S.pre
    rw [List.length_take] at e
    lia
  exact ⟨t, ht, bodyIO_ok hs hl hsp⟩
end
end Tr
namespace Tr
open PySem L2
section
variable {ρ ρ1 ρ2 : Env} {f g h : SE} {fs : SA} {s u : SB} {b c : SS} {i j : Nat} {d : D} {m : Mode}
@[simp] theorem relock_self (a : Option Slot) : relock a a = a := by cases a <;> rfl
@[simp] theorem relock_noneR (a : Option Slot) : relock a none = none := by cases a <;> rfl
@[simp] theorem relock_noneL (a : Option Slot) : relock none a = a := by cases a <;> rfl
@[simp] theorem frz2_noneR (a : Option Slot) : frz2 a none = none := by cases a <;> rfl
@[simp] theorem frz2_noneL (a : Option Slot) : frz2 none a = a := by cases a <;> rfl
@[simp] theorem restore_self : ∀ ρ : Env, restore ρ ρ = ρ
  | [] => rfl
  | a :: ρ => by simp [restore, restore_self ρ]
@[simp] theorem frz2_self (a : Option Slot) : frz2 a a = a := by
  cases a with
  | none => rfl
  | some s => simp [frz2]
@[simp] theorem freeze2_self : ∀ ρ : Env, freeze2 ρ ρ = ρ
  | [] => rfl
  | a :: ρ => by simp [freeze2, freeze2_self ρ]
@[simp] theorem restore_cons {a b : Option Slot} : restore (a :: ρ) (b :: ρ1) = relock a b :: restore ρ ρ1 := rfl
@[simp] theorem freeze2_cons {a b : Option Slot} : freeze2 (a :: ρ) (b :: ρ1) = frz2 a b :: freeze2 ρ ρ1 := rfl
@[simp] theorem relock_some {a b : Slot} : relock (some a) (some b) = some { b with lk := a.lk } := rfl
@[simp] theorem frz2_some {a b : Slot} : frz2 (some a) (some b) = if b.lk && !a.lk then some ⟨.F, false, b.d⟩ else some b := rfl
@[simp] theorem flat_int {a : Int} : D.flat (.int a) = true := rfl
@[simp] theorem flat_bl {a : Bool} : D.flat (.bl a) = true := rfl
@[simp] theorem flat_non : D.flat .non = true := rfl
@[simp] theorem flat_str {a : Str} : D.flat (.str a) = true := rfl
@[simp] theorem flat_ty {a : String} : D.flat (.ty a) = true := rfl
@[simp] theorem flat_lst {a : List D} : D.flat (.lst a) = false := rfl
@[simp] theorem flat_scr {a : List Int} : D.flat (.scr a) = false := rfl
@[simp] theorem flat_tup {a : List D} : D.flat (.tup a) = D.flats a := rfl
@[simp] theorem flat_ins {c : String} {a : List (Str × D)} : D.flat (.ins c a) = false := rfl
@[simp] theorem flats_nil : D.flats [] = true := rfl
@[simp] theorem flats_cons {a : D} {r : List D} : D.flats (a :: r) = (a.flat && D.flats r) := rfl
theorem flats_ints : ∀ xs : List Int, D.flats (xs.map D.int) = true
  | [] => rfl
  | _ :: xs => by simp [flats_ints xs]
@[simp] theorem sCon_ap : sCon d ρ = some (⟨.O, d⟩, ρ) := rfl
@[simp] theorem sNil_ap : sNil ρ = some ([], ρ) := rfl
@[simp] theorem sVar_ap : sVar i ρ = (match ρ[i]? with
  | some (some s) => if s.d.flat then some (⟨.O, s.d⟩, ρ) else if s.m = .F then some (⟨.F, s.d⟩, ρ) else some (⟨.F, s.d⟩, ρ.set i (some { s with lk := true }))
  | _ => none) := rfl
@[simp] theorem sMove_ap : sMove i ρ = (match ρ[i]? with
  | some (some s) => if s.d.flat then some (⟨.O, s.d⟩, ρ) else if s.m = .F then some (⟨.F, s.d⟩, ρ) else if s.lk then none else some (⟨s.m, s.d⟩, ρ.set i none)
  | _ => none) := rfl
@[simp] theorem sCons_ap : sCons f fs ρ = (match f ρ with
  | some (r, ρ1) => (match fs ρ1 with
    | some (rs, ρ2) => some (r :: rs, ρ2)
    | none => none)
  | none => none) := rfl
@[simp] theorem sApp_ap {o : List Val → Option Val} : sApp o fs ρ = (match fs ρ with
  | some (rs, ρ1) => (match o rs with
    | some r => if r.m = .O then some (r, restore ρ ρ1) else some (r, ρ1)
    | none => none)
  | none => none) := by
  unfold sApp sealE
  cases e : fs ρ with
  | none => simp [e]
  | some x =>
    obtain ⟨rs, ρ1⟩ := x
    cases e2 : o rs <;> simp [e, e2]
@[simp] theorem sApp2_ap {o : List Val → Option Val} : sApp2 o f g ρ = sApp o (sCons f (sCons g sNil)) ρ := rfl
@[simp] theorem sApp1_ap {o : List Val → Option Val} : sApp1 o f ρ = sApp o (sCons f sNil) ρ := rfl
@[simp] theorem sTest_ap : sTest f ρ = (match f ρ with
  | some (⟨_, .bl b⟩, ρ1) => some (b, restore ρ ρ1)
  | _ => none) := rfl
@[simp] theorem sNot_ap : sNot s ρ = (match s ρ with
  | some (b, ρ1) => some (!b, ρ1)
  | none => none) := rfl
@[simp] theorem sAnd_ap : sAnd s u ρ = (match s ρ with
  | some (true, ρ1) => u ρ1
  | some (false, ρ1) => some (false, ρ1)
  | none => none) := rfl
@[simp] theorem sOr_ap : sOr s u ρ = (match s ρ with
  | some (true, ρ1) => some (true, ρ1)
  | some (false, ρ1) => u ρ1
  | none => none) := rfl
@[simp] theorem sAndV_ap : sAndV f g ρ = (match f ρ with
  | some (⟨_, .bl true⟩, ρ1) => g ρ1
  | some (⟨_, .bl false⟩, ρ1) => some (⟨.O, .bl false⟩, ρ1)
  | _ => none) := rfl
@[simp] theorem sOrV_ap : sOrV f g ρ = (match f ρ with
  | some (⟨_, .bl true⟩, ρ1) => some (⟨.O, .bl true⟩, ρ1)
  | some (⟨_, .bl false⟩, ρ1) => g ρ1
  | _ => none) := rfl
@[simp] theorem sNotV_ap : sNotV f ρ = (match f ρ with
  | some (⟨_, .bl b⟩, ρ1) => some (⟨.O, .bl (!b)⟩, ρ1)
  | _ => none) := rfl
@[simp] theorem sAsg_ap {t : STg} : sAsg t f ρ = (match f ρ with
  | some (r, ρ1) => (match t r (settle ρ r ρ1) with
    | some ρ2 => some (.nx ρ2)
    | none => none)
  | none => none) := rfl
@[simp] theorem sSet_ap : sSet i f ρ = (match f ρ with
  | some (r, ρ1) => (match setSlot (settle ρ r ρ1) i r with
    | some ρ2 => some (.nx ρ2)
    | none => none)
  | none => none) := rfl
@[simp] theorem sPar_ap : sPar i j fs ρ = (match fs ρ with
  | some ([r, r2], ρ1) =>
    (match setSlot (if allO [r, r2] then restore ρ ρ1 else freeze2 ρ ρ1) i r with
    | some ρ2 =>
      (match setSlot ρ2 j r2 with
      | some ρ3 => some (.nx ρ3)
      | none => none)
    | none => none)
  | _ => none) := rfl
@[simp] theorem sDrop_ap : sDrop f ρ = (match f ρ with
  | some (_, ρ1) => some (.nx (restore ρ ρ1))
  | none => none) := rfl
@[simp] theorem sRet_ap : sRet f ρ = (match f ρ with
  | some (r, ρ1) => some (.rt r ρ1)
  | none => none) := rfl
@[simp] theorem sSkip_ap : sSkip ρ = some (.nx ρ) := rfl
@[simp] theorem sYes_ap : sYes ρ = some (true, ρ) := rfl
@[simp] theorem sSeq_ap : sSeq b c ρ = (match b ρ with
  | some (.nx ρ1) => c ρ1
  | r => r) := rfl
@[simp] theorem sIf_ap : sIf s b c ρ = (match s ρ with
  | some (true, ρ1) => b ρ1
  | some (false, ρ1) => c ρ1
  | none => none) := rfl
@[simp] theorem sFor_ap {src : SI} {t : STg} : sFor src t b ρ = (match src ρ with
  | some (ds, ρ1) => forGo t b ds (freeze2 ρ ρ1)
  | none => none) := rfl
@[simp] theorem sGName_ap {r : Val} : sGName i r ρ = setSlot ρ i r := rfl
@[simp] theorem sGNil_ap {m : Mode} : sGNil [] m ρ = some ρ := rfl
@[simp] theorem sGCons_ap {t : STg} {ts : List D → Mode → Env → Option Env} {ds : List D} : sGCons t ts (d :: ds) m ρ = (match t (nrm m d) ρ with
  | some ρ1 => ts ds m ρ1
  | none => none) := rfl
@[simp] theorem sGTup_ap {ts : List D → Mode → Env → Option Env} {ds : List D} : sGTup ts ⟨m, .tup ds⟩ ρ = ts ds m ρ := rfl
@[simp] theorem iRange1_ap : iRange1 fs ρ = (match fs ρ with
  | some ([⟨_, .int j⟩], ρ1) => if small j then some (up 0 j.toNat, ρ1) else none
  | _ => none) := rfl
@[simp] theorem iRange2_ap : iRange2 fs ρ = (match fs ρ with
  | some ([⟨_, .int i⟩, ⟨_, .int j⟩], ρ1) => if small i && small j then some (up i (j - i).toNat, ρ1) else none
  | _ => none) := rfl
@[simp] theorem sChain_ap {p q : Int → Int → Bool} : sChain p q f g h ρ = (match f ρ with
  | some (⟨_, .int a⟩, ρ1) =>
    (match g ρ1 with
    | some (⟨_, .int b⟩, ρ2) =>
      if p a b then
        (match h ρ2 with
        | some (⟨_, .int c⟩, ρ3) => some (⟨.O, .bl (q b c)⟩, ρ3)
        | _ => none)
      else some (⟨.O, .bl false⟩, ρ2)
    | _ => none)
  | _ => none) := rfl
@[simp] theorem nrm_int {a : Int} : nrm m (.int a) = ⟨.O, .int a⟩ := rfl
@[simp] theorem nrm_bl {a : Bool} : nrm m (.bl a) = ⟨.O, .bl a⟩ := rfl
@[simp] theorem nrm_non : nrm m .non = ⟨.O, .non⟩ := rfl
@[simp] theorem nrm_lst {a : List D} : nrm m (.lst a) = ⟨m, .lst a⟩ := rfl
@[simp] theorem nrm_O : nrm .O d = ⟨.O, d⟩ := by unfold nrm; split <;> rfl
@[simp] theorem opFn_ap {o : List D → Option Val} {rs : List Val} : opFn o rs = o (rs.map fun x => x.d) := rfl
theorem while_false (h : s ρ = some (false, ρ1)) : sWhile s b ρ = some (.nx ρ1) := by
  rw [sWhile_iff]
  exact ⟨1, by simp [whileF, h]⟩
theorem while_step (h : s ρ = some (true, ρ1)) (h2 : b ρ1 = some (.nx ρ2)) : sWhile s b ρ = sWhile s b ρ2 := by
  apply Option.ext
  intro r
  rw [sWhile_iff, sWhile_iff]
  constructor
  · rintro ⟨n, e⟩
    cases n with
    | zero => cases e
    | succ n =>
      refine ⟨n, ?_⟩
      simpa [whileF, h, h2] using e
  · rintro ⟨n, e⟩
    refine ⟨n + 1, ?_⟩
    simpa [whileF, h, h2] using e
@[simp] theorem forGo_nil {t : STg} : forGo t b [] ρ = some (.nx ρ) := rfl
@[simp] theorem forGo_cons {t : STg} {ds : List D} : forGo t b (d :: ds) ρ = (match t (nrm .F d) ρ with
  | some ρ1 =>
    (match b ρ1 with
    | some (.nx ρ2) => forGo t b ds ρ2
    | some (.ct ρ2) => forGo t b ds ρ2
    | some (.bk ρ2) => some (.nx ρ2)
    | some (.rt r ρ2) => some (.rt r ρ2)
    | none => none)
  | none => none) := rfl
/-- an invariant of a for -/
theorem for_inv {t : STg} (P : Nat → Env → Prop) : ∀ (ds : List D) (k0 : Nat) (ρ : Env), P k0 ρ →
    (∀ k d ρ, ds[k]? = some d → P (k0 + k) ρ → ∃ ρ1 ρ2, t (nrm .F d) ρ = some ρ1 ∧ (b ρ1 = some (.nx ρ2) ∨ b ρ1 = some (.ct ρ2)) ∧ P (k0 + k + 1) ρ2) →
    ∃ ρ', forGo t b ds ρ = some (.nx ρ') ∧ P (k0 + ds.length) ρ'
  | [], k0, ρ, h0, _ => ⟨ρ, rfl, h0⟩
  | d :: ds, k0, ρ, h0, hs => by
    obtain ⟨ρ1, ρ2, e1, e2, h1⟩ := hs 0 d ρ rfl h0
    obtain ⟨ρ', e3, h3⟩ := for_inv P ds (k0 + 1) ρ2 h1 fun k d ρ e p => by
      have q := hs (k + 1) d ρ e (by rw [show k0 + (k + 1) = k0 + 1 + k by omega]; exact p)
      rw [show k0 + (k + 1) = k0 + 1 + k by omega] at q
      exact q
    refine ⟨ρ', ?_, by rw [List.length_cons, show k0 + (ds.length + 1) = k0 + 1 + ds.length by omega]; exact h3⟩
    rw [forGo_cons, e1]
    rcases e2 with e2 | e2
    · simp [e2, e3]
    · simp [e2, e3]
@[simp] theorem up_len {lo : Int} {n : Nat} : (up lo n).length = n := by simp [up]
theorem bitOk_of {a b : Int} {n m : Nat} (ha : a.natAbs < 2 ^ n) (hb : b.natAbs < 2 ^ m) (h : n + m ≤ 1000000) : bitOk a b = true := by
  apply ok_of
  have lg : ∀ (x k : Nat), x < 2 ^ k → x.log2 ≤ k ∧ (0 < k → x.log2 < k) := fun x k hx => by
    by_cases z : x = 0
    · subst z
      exact ⟨by simp [Nat.log2_zero], fun hk => by simpa [Nat.log2_zero] using hk⟩
    · have := (Nat.log2_lt z).mpr hx
      exact ⟨Nat.le_of_lt this, fun _ => this⟩
  have h1 := lg _ _ ha
  have h2 := lg _ _ hb
  omega
theorem log2_of {a : Nat} {n : Nat} (ha : a < 2 ^ n) (h0 : 0 < n) : a.log2 < n := by
  by_cases z : a = 0
  · subst z
    simpa [Nat.log2_zero] using h0
  · exact (Nat.log2_lt z).mpr ha
theorem mul_lt_pow {a b : Int} {n m : Nat} (ha : a.natAbs < 2 ^ n) (hb : b.natAbs < 2 ^ m) : (a * b).natAbs < 2 ^ (n + m) := by
  rw [Int.natAbs_mul, Nat.pow_add]
  exact Nat.mul_lt_mul'' ha hb
end
mutual
/-- plain data, at most so deep -/
def D.good : Nat → D → Bool
  | _, .non => true
  | _, .bl _ => true
  | _, .int _ => true
  | _, .str x => x.cps.all (· < 0x110000)
  | 0, _ => false
  | n + 1, .lst xs => D.goods n xs
  | n + 1, .tup xs => D.goods n xs
  | _, _ => false
def D.goods : Nat → List D → Bool
  | _, [] => true
  | n, x :: xs => D.good n x && D.goods n xs
end
mutual
theorem good_ok : ∀ (n : Nat) (d : D), D.good n d = true → d.plain = true ∧ d.py.canLay0 = true ∧ d.py.depth ≤ n + 1
  | n, .non, _ => by simp [D.plain, D.py, PyData.canLay0, PyData.depth]
  | n, .bl _, _ => by simp [D.plain, D.py, PyData.canLay0, PyData.depth]
  | n, .int _, _ => by simp [D.plain, D.py, PyData.canLay0, PyData.depth]
  | n, .str x, h => by
    simp only [D.good] at h
    refine ⟨by simp [D.plain], ?_, by simp [D.py, PyData.depth]⟩
    simp only [D.py, PyData.canLay0]
    exact h
  | 0, .lst _, h => by simp [D.good] at h
  | 0, .tup _, h => by simp [D.good] at h
  | n + 1, .lst xs, h => by
    simp only [D.good] at h
    obtain ⟨h1, h2, h3⟩ := goods_ok n xs h
    exact ⟨by simpa [D.plain] using h1, by simpa [D.py, PyData.canLay0] using h2, by simp only [D.py, PyData.depth]; omega⟩
  | n + 1, .tup xs, h => by
    simp only [D.good] at h
    obtain ⟨h1, h2, h3⟩ := goods_ok n xs h
    exact ⟨by simpa [D.plain] using h1, by simpa [D.py, PyData.canLay0] using h2, by simp only [D.py, PyData.depth]; omega⟩
  | n, .ty _, h => by cases n <;> simp [D.good] at h
  | n, .cl _, h => by cases n <;> simp [D.good] at h
  | n, .exc _, h => by cases n <;> simp [D.good] at h
  | n, .scr _, h => by cases n <;> simp [D.good] at h
  | n, .ins _ _, h => by cases n <;> simp [D.good] at h
theorem goods_ok : ∀ (n : Nat) (ds : List D), D.goods n ds = true → D.plains ds = true ∧ PyData.canLayAll0 (D.pys ds) = true ∧ PyData.depthAll (D.pys ds) ≤ n + 1
  | n, [], _ => by simp [D.plains, D.pys, PyData.canLayAll0, PyData.depthAll]
  | n, x :: xs, h => by
    rw [D.goods, Bool.and_eq_true] at h
    obtain ⟨h1, h2, h3⟩ := good_ok n x h.1
    obtain ⟨q1, q2, q3⟩ := goods_ok n xs h.2
    refine ⟨by simp [D.plains, h1, q1], by simp [D.pys, PyData.canLayAll0, h2, q2], ?_⟩
    simp only [D.pys, PyData.depthAll]
    omega
end
theorem pyOk_of {n : Nat} {d : D} (h : D.good n d = true) (hn : n ≤ 60) : pyOk d = true := by
  obtain ⟨h1, h2, h3⟩ := good_ok n d h
  unfold pyOk PySem.SeqAt.shaped
  simp only [h1, h2, Bool.true_and, decide_eq_true_eq]
  omega
@[simp] theorem pyOk_int {a : Int} : pyOk (.int a) = true := pyOk_of (n := 0) rfl (by decide)
@[simp] theorem pyOk_bl {a : Bool} : pyOk (.bl a) = true := pyOk_of (n := 0) rfl (by decide)
@[simp] theorem pyOk_non : pyOk .non = true := pyOk_of (n := 0) rfl (by decide)
theorem goods_ints (n : Nat) : ∀ xs : List Int, D.goods n (xs.map D.int) = true
  | [] => by simp [D.goods]
  | x :: xs => by cases n <;> simp [D.goods, D.good, goods_ints _ xs]
@[simp] theorem pyOk_ints {xs : List Int} : pyOk (.lst (xs.map D.int)) = true := pyOk_of (n := 1) (by simp [D.good, goods_ints]) (by decide)
mutual
theorem eqv_self : ∀ d : D, d.plain = true → PyData.eqv d.py d.py = true
  | .non, _ => by simp [D.py, PyData.eqv]
  | .bl _, _ => by simp [D.py, PyData.eqv]
  | .int _, _ => by simp [D.py, PyData.eqv]
  | .str _, _ => by simp [D.py, PyData.eqv]
  | .lst xs, h => by
    simp only [D.py, PyData.eqv]
    exact eqvs_self xs (by simpa [D.plain] using h)
  | .tup xs, h => by
    simp only [D.py, PyData.eqv]
    exact eqvs_self xs (by simpa [D.plain] using h)
  | .scr ns, _ => by
    simp only [D.py, PyData.eqv]
    exact eqvi_self ns
  | .ty _, h => by simp [D.plain] at h
  | .cl _, h => by simp [D.plain] at h
  | .exc _, h => by simp [D.plain] at h
  | .ins _ _, h => by simp [D.plain] at h
theorem eqvs_self : ∀ ds : List D, D.plains ds = true → PyData.eqvAll (D.pys ds) (D.pys ds) = true
  | [], _ => by simp [D.pys, PyData.eqvAll]
  | x :: xs, h => by
    rw [D.plains, Bool.and_eq_true] at h
    simp [D.pys, PyData.eqvAll, eqv_self x h.1, eqvs_self xs h.2]
theorem eqvi_self : ∀ ns : List Int, PyData.eqvAll (ns.map PyData.int) (ns.map PyData.int) = true
  | [] => by simp [PyData.eqvAll]
  | x :: xs => by simp [PyData.eqvAll, PyData.eqv, eqvi_self xs]
end
@[simp] theorem eqv_int {a b : Int} : PyData.eqv (.int a) (.int b) = (a == b) := by simp [PyData.eqv]
theorem eqv_ints : ∀ {a b : List Int}, PyData.eqvAll (D.pys (a.map D.int)) (D.pys (b.map D.int)) = decide (a = b)
  | [], [] => by simp [D.pys, PyData.eqvAll]
  | [], _ :: _ => by simp [D.pys, PyData.eqvAll]
  | _ :: _, [] => by simp [D.pys, PyData.eqvAll]
  | x :: xs, y :: ys => by
    simp only [List.map_cons, D.pys, PyData.eqvAll, D.py, eqv_int, eqv_ints, List.cons.injEq]
    by_cases h : x = y <;> by_cases h2 : xs = ys <;> simp [h, h2]
@[simp] theorem py_int {a : Int} : D.py (.int a) = .int a := by simp [D.py]
@[simp] theorem py_bl {a : Bool} : D.py (.bl a) = .bool a := by simp [D.py]
@[simp] theorem py_non : D.py .non = .none := by simp [D.py]
@[simp] theorem py_lst {a : List D} : D.py (.lst a) = .list (D.pys a) := by simp [D.py]
@[simp] theorem py_tup {a : List D} : D.py (.tup a) = .tuple (D.pys a) := by simp [D.py]
@[simp] theorem pys_nil : D.pys [] = [] := by simp [D.pys]
@[simp] theorem pys_cons {x : D} {xs : List D} : D.pys (x :: xs) = D.py x :: D.pys xs := by simp [D.pys]
theorem gcd_fmod (a b : Int) : Int.gcd b (a.fmod b) = Int.gcd a b := by
  rw [Int.fmod_def, Int.gcd_sub_mul_left_right, Int.gcd_comm]
theorem fmod_range {a b : Int} (h : 0 < b) : 0 ≤ a.fmod b ∧ a.fmod b < b := ⟨Int.fmod_nonneg_of_pos a h, Int.fmod_lt_of_pos a h⟩
theorem fmod_lt {a b : Int} (h : b ≠ 0) : (a.fmod b).natAbs < b.natAbs := by
  by_cases h0 : 0 < b
  · have := fmod_range (a := a) h0
    omega
  · have q := Int.fmod_def a b
    have e : a.fmod b = -((-a).fmod (-b)) := by
      rw [Int.fmod_def, Int.fmod_def, Int.neg_fdiv_neg, Int.neg_mul]; omega
    have := fmod_range (a := -a) (b := -b) (by omega)
    omega
/-- the loop of the greatest common divisor -/
theorem gcd_loop : ∀ (n : Nat) (a b : Int) (m1 m2 : Mode), b.natAbs ≤ n → ∃ g m3 m4,
    sWhile (sTest (sApp2 opNe (sVar 1) (sCon (.int 0)))) (sPar 0 1 (sCons (sVar 1) (sCons (sApp2 opMod (sVar 0) (sVar 1)) sNil))) [some ⟨m1, false, .int a⟩, some ⟨m2, false, .int b⟩] =
      some (.nx [some ⟨m3, false, .int g⟩, some ⟨m4, false, .int 0⟩]) ∧ g.natAbs = Int.gcd a b
  | n, a, b, m1, m2, h => by
    by_cases hb : b = 0
    · subst hb
      refine ⟨a, m1, m2, while_false ?_, by simp⟩
      simp [sTest_ap, sApp2_ap, sApp_ap, sCons_ap, sVar_ap, opNe]
    · cases n with
      | zero => omega
      | succ n =>
        have hlt := fmod_lt (a := a) hb
        obtain ⟨g, m3, m4, e, hg⟩ := gcd_loop n b (a.fmod b) .O .O (by omega)
        refine ⟨g, m3, m4, ?_, by rw [hg, gcd_fmod]⟩
        rw [← e]
        refine while_step (ρ1 := [some ⟨m1, false, .int a⟩, some ⟨m2, false, .int b⟩]) ?_ ?_
        · simp [sTest_ap, sApp2_ap, sApp_ap, sCons_ap, sVar_ap, opNe, hb]
        · simp [sPar_ap, sApp2_ap, sApp_ap, sCons_ap, sVar_ap, opMod, hb, allO, setSlot]
/-- the run goes on, into an environment of this kind -/
def nxIs : Option Out → (Env → Prop) → Prop
  | some (.nx ρ), p => p ρ
  | some (.ct ρ), p => p ρ
  | _, _ => False
@[simp] theorem nxIs_some {ρ : Env} {p : Env → Prop} : nxIs (some (.nx ρ)) p = p ρ := rfl
@[simp] theorem nxIs_ct {ρ : Env} {p : Env → Prop} : nxIs (some (.ct ρ)) p = p ρ := rfl
theorem nxIs_ex {x : Option Out} {p : Env → Prop} (h : nxIs x p) : ∃ ρ, (x = some (.nx ρ) ∨ x = some (.ct ρ)) ∧ p ρ :=
  match x, h with
  | some (.nx ρ), h => ⟨ρ, .inl rfl, h⟩
  | some (.ct ρ), h => ⟨ρ, .inr rfl, h⟩
@[simp] theorem good_int {n : Nat} {a : Int} : D.good n (.int a) = true := by cases n <;> simp [D.good]
@[simp] theorem good_bl {n : Nat} {a : Bool} : D.good n (.bl a) = true := by cases n <;> simp [D.good]
@[simp] theorem good_non {n : Nat} : D.good n .non = true := by cases n <;> simp [D.good]
@[simp] theorem good_lst {n : Nat} {a : List D} : D.good (n + 1) (.lst a) = D.goods n a := by simp [D.good]
@[simp] theorem good_tup {n : Nat} {a : List D} : D.good (n + 1) (.tup a) = D.goods n a := by simp [D.good]
@[simp] theorem goods_nil {n : Nat} : D.goods n [] = true := by simp [D.goods]
@[simp] theorem goods_cons {n : Nat} {a : D} {r : List D} : D.goods n (a :: r) = (D.good n a && D.goods n r) := by simp [D.goods]
theorem pyOk_good {d : D} (h : D.good 60 d = true) : pyOk d = true := pyOk_of h (by decide)
theorem pyOk_tup {a : List D} (h : D.goods 59 a = true) : pyOk (.tup a) = true := pyOk_good (by simp only [good_tup, h])
@[simp] theorem eqv_bl {a b : Bool} : PyData.eqv (.bool a) (.bool b) = (a == b) := by cases a <;> cases b <;> simp [PyData.eqv]
@[simp] theorem eqv_lst {a b : List PyData} : PyData.eqv (.list a) (.list b) = PyData.eqvAll a b := by simp [PyData.eqv]
@[simp] theorem eqv_tup {a b : List PyData} : PyData.eqv (.tuple a) (.tuple b) = PyData.eqvAll a b := by simp [PyData.eqv]
@[simp] theorem eqvAll_nil : PyData.eqvAll [] [] = true := by simp [PyData.eqvAll]
@[simp] theorem eqvAll_cons {x y : PyData} {a b : List PyData} : PyData.eqvAll (x :: a) (y :: b) = (PyData.eqv x y && PyData.eqvAll a b) := by simp [PyData.eqvAll]
end Tr
namespace Tr
open PySem L2
section
variable {m p q : Mode} {a b : Int} {ρ ρ1 ρ2 : Env} {α : Type}
@[simp] theorem setSlot_ap {i : Nat} {r : Val} : setSlot ρ i r = if i < ρ.length then some (ρ.set i (some ⟨r.m, false, r.d⟩)) else none := rfl
@[simp] theorem settle_ap {r : Val} : settle ρ r ρ1 = if r.m = .O then restore ρ ρ1 else freeze2 ρ ρ1 := rfl
@[simp] theorem allO_nil : allO [] = true := rfl
@[simp] theorem allO_cons {r : Val} {rs : List Val} : allO (r :: rs) = (decide (r.m = .O) && allO rs) := rfl
@[simp] theorem allS_nil : allS [] = true := rfl
@[simp] theorem allS_cons {r : Val} {rs : List Val} : allS (r :: rs) = ((decide (r.m = .S) || r.d.flat) && allS rs) := rfl
@[simp] theorem par_int : par (.int a) = ⟨.O, false, .int a⟩ := rfl
@[simp] theorem par_bl {x : Bool} : par (.bl x) = ⟨.O, false, .bl x⟩ := rfl
@[simp] theorem par_non : par .non = ⟨.O, false, .non⟩ := rfl
@[simp] theorem par_str {x : Str} : par (.str x) = ⟨.O, false, .str x⟩ := rfl
@[simp] theorem par_lst {x : List D} : par (.lst x) = ⟨.F, false, .lst x⟩ := rfl
@[simp] theorem par_scr {x : List Int} : par (.scr x) = ⟨.F, false, .scr x⟩ := rfl
@[simp] theorem par_tup {x : List D} : par (.tup x) = ⟨if D.flats x = true then .O else .F, false, .tup x⟩ := by
  unfold par nrm
  rw [flat_tup]
  split <;> simp
@[simp] theorem nrm_str {x : Str} : nrm m (.str x) = ⟨.O, .str x⟩ := rfl
@[simp] theorem nrm_scr {x : List Int} : nrm m (.scr x) = ⟨m, .scr x⟩ := rfl
theorem nrm_tup {x : List D} : nrm m (.tup x) = if D.flats x = true then ⟨.O, .tup x⟩ else ⟨m, .tup x⟩ := rfl
@[simp] theorem nrm_tupT {x : List D} (h : D.flats x = true) : nrm m (.tup x) = ⟨.O, .tup x⟩ := by rw [nrm_tup, if_pos h]
@[simp] theorem nrm_tupF {x : List D} (h : D.flats x = false) : nrm m (.tup x) = ⟨m, .tup x⟩ := by rw [nrm_tup, h]; rfl
@[simp] theorem ok_true {P : Prop} (h : P) : ok P = true := ok_of h
@[simp] theorem small_true (h : -(2 ^ 62) ≤ a ∧ a < 2 ^ 62) : small a = true := ok_of h
@[simp] theorem divOk_true (h0 : 0 < a) (h : a < 2 ^ 64) : divOk a = true := ok_of ⟨by lia, by
  have := log2_of (a := a.natAbs) (n := 64) (by lia) (by decide)
  lia⟩
theorem divOk_of {n : Nat} (h0 : a ≠ 0) (h : a.natAbs < 2 ^ n) (hn : n ≤ 9000) : divOk a = true := ok_of ⟨h0, by
  by_cases z : n = 0
  · subst z; lia
  · have := log2_of h (by lia); lia⟩
@[simp] theorem opAdd_ii : opAdd [⟨m, .int a⟩, ⟨p, .int b⟩] = some ⟨.O, .int (a + b)⟩ := rfl
@[simp] theorem opSub_ii : opSub [⟨m, .int a⟩, ⟨p, .int b⟩] = some ⟨.O, .int (a - b)⟩ := rfl
@[simp] theorem opMul_ii : opMul [⟨m, .int a⟩, ⟨p, .int b⟩] = if bitOk a b = true then some ⟨.O, .int (a * b)⟩ else none := rfl
@[simp] theorem opMod_ii : opMod [⟨m, .int a⟩, ⟨p, .int b⟩] = if b = 0 then none else some ⟨.O, .int (a.fmod b)⟩ := rfl
@[simp] theorem opDiv_ii : opDiv [⟨m, .int a⟩, ⟨p, .int b⟩] = if divOk b = true then some ⟨.O, .int (a.fdiv b)⟩ else none := rfl
@[simp] theorem opPow_ii : opPow [⟨m, .int a⟩, ⟨p, .int b⟩] = if ok (0 ≤ b ∧ b ≤ 1000000 ∧ a.natAbs < 2 ^ 64) = true then some ⟨.O, .int (a ^ b.toNat)⟩ else none := rfl
@[simp] theorem opNeg_i : opNeg [⟨m, .int a⟩] = some ⟨.O, .int (-a)⟩ := rfl
@[simp] theorem opLt_ii : opLt [⟨m, .int a⟩, ⟨p, .int b⟩] = some ⟨.O, .bl (decide (a < b))⟩ := rfl
@[simp] theorem opLe_ii : opLe [⟨m, .int a⟩, ⟨p, .int b⟩] = some ⟨.O, .bl (decide (a ≤ b))⟩ := rfl
@[simp] theorem opGt_ii : opGt [⟨m, .int a⟩, ⟨p, .int b⟩] = some ⟨.O, .bl (decide (b < a))⟩ := rfl
@[simp] theorem opGe_ii : opGe [⟨m, .int a⟩, ⟨p, .int b⟩] = some ⟨.O, .bl (decide (b ≤ a))⟩ := rfl
@[simp] theorem opAbs_i : opAbs [⟨m, .int a⟩] = some ⟨.O, .int (if a < 0 then -a else a)⟩ := rfl
@[simp] theorem opMax2_ii : opMax2 [⟨m, .int a⟩, ⟨p, .int b⟩] = some ⟨.O, .int (max a b)⟩ := by
  have e : opMax2 [⟨m, .int a⟩, ⟨p, .int b⟩] = some ⟨.O, .int (if b > a then b else a)⟩ := rfl
  rw [e]
  congr 3
  split <;> lia
@[simp] theorem opMin2_ii : opMin2 [⟨m, .int a⟩, ⟨p, .int b⟩] = some ⟨.O, .int (min a b)⟩ := by
  have e : opMin2 [⟨m, .int a⟩, ⟨p, .int b⟩] = some ⟨.O, .int (if b < a then b else a)⟩ := rfl
  rw [e]
  congr 3
  split <;> lia
@[simp] theorem opInt_i : opInt [⟨m, .int a⟩] = some ⟨.O, .int a⟩ := rfl
@[simp] theorem opInt_b {x : Bool} : opInt [⟨m, .bl x⟩] = some ⟨.O, .int (if x then 1 else 0)⟩ := rfl
@[simp] theorem opIsN_ap {d : D} : opIsN [⟨m, d⟩, ⟨p, .non⟩] = some ⟨.O, .bl d.isNon⟩ := rfl
@[simp] theorem opNotN_ap {d : D} : opNotN [⟨m, d⟩, ⟨p, .non⟩] = some ⟨.O, .bl (!d.isNon)⟩ := rfl
@[simp] theorem isNon_non : D.isNon .non = true := rfl
@[simp] theorem isNon_int : D.isNon (.int a) = false := rfl
@[simp] theorem isNon_tup {x : List D} : D.isNon (.tup x) = false := rfl
@[simp] theorem isNon_lst {x : List D} : D.isNon (.lst x) = false := rfl
@[simp] theorem opIsB_ap {x y : Bool} : opIsB [⟨m, .bl x⟩, ⟨p, .bl y⟩] = some ⟨.O, .bl (decide (x = y))⟩ := rfl
@[simp] theorem opNotB_ap {x y : Bool} : opNotB [⟨m, .bl x⟩, ⟨p, .bl y⟩] = some ⟨.O, .bl (!decide (x = y))⟩ := rfl
@[simp] theorem opEq_ii : opEq [⟨m, .int a⟩, ⟨p, .int b⟩] = some ⟨.O, .bl (decide (a = b))⟩ := by simp [opEq]; rfl
@[simp] theorem opNe_ii : opNe [⟨m, .int a⟩, ⟨p, .int b⟩] = some ⟨.O, .bl (!decide (a = b))⟩ := by simp [opNe]; rfl
theorem opEq_ap {x y : Val} : opEq [x, y] = if (pyOk x.d && pyOk y.d) = true then some ⟨.O, .bl (PyData.eqv x.d.py y.d.py)⟩ else none := rfl
theorem opNe_ap {x y : Val} : opNe [x, y] = if (pyOk x.d && pyOk y.d) = true then some ⟨.O, .bl (!PyData.eqv x.d.py y.d.py)⟩ else none := rfl
@[simp] theorem opLen_tup {x : List D} : opLen [⟨m, .tup x⟩] = some ⟨.O, .int x.length⟩ := rfl
@[simp] theorem opLen_lst {x : List D} : opLen [⟨m, .lst x⟩] = some ⟨.O, .int x.length⟩ := rfl
@[simp] theorem opLen_scr {x : List Int} : opLen [⟨m, .scr x⟩] = some ⟨.O, .int x.length⟩ := rfl
theorem sizeLine_big : (1000000 : Nat) ≤ sizeLine := Nat.le_of_ble_eq_true rfl
@[simp] theorem ok_lit {n : Nat} (h : n ≤ 1000000) : ok (n ≤ sizeLine) = true := ok_of (by have := sizeLine_big; lia)
@[simp] theorem ok_litL {n : Nat} (h : n < 1000000) : ok (n < sizeLine) = true := ok_of (by have := sizeLine_big; lia)
theorem opTup_ap {rs : List Val} : opTup rs = if ok (rs.length ≤ sizeLine) = true then some (if allO rs then ⟨.O, .tup (ds rs)⟩ else if allS rs then ⟨.S, .tup (ds rs)⟩ else ⟨.F, .tup (ds rs)⟩) else none := rfl
@[simp] theorem opTup_1 {x : Val} : opTup [x] = some (if allO [x] then ⟨.O, .tup [x.d]⟩ else if allS [x] then ⟨.S, .tup [x.d]⟩ else ⟨.F, .tup [x.d]⟩) := by
  rw [opTup_ap, if_pos (ok_of (by have := sizeLine_big; simp; lia))]; rfl
@[simp] theorem opTup_2 {x y : Val} : opTup [x, y] = some (if allO [x, y] then ⟨.O, .tup [x.d, y.d]⟩ else if allS [x, y] then ⟨.S, .tup [x.d, y.d]⟩ else ⟨.F, .tup [x.d, y.d]⟩) := by
  rw [opTup_ap, if_pos (ok_of (by have := sizeLine_big; simp; lia))]; rfl
@[simp] theorem opTup_3 {x y z : Val} : opTup [x, y, z] = some (if allO [x, y, z] then ⟨.O, .tup [x.d, y.d, z.d]⟩ else if allS [x, y, z] then ⟨.S, .tup [x.d, y.d, z.d]⟩ else ⟨.F, .tup [x.d, y.d, z.d]⟩) := by
  rw [opTup_ap, if_pos (ok_of (by have := sizeLine_big; simp; lia))]; rfl
theorem opLst_ap {rs : List Val} (h : rs.length ≤ 1000) : opLst rs = some (if allO rs then ⟨.O, .lst (ds rs)⟩ else ⟨.S, .lst (ds rs)⟩) := by
  unfold opLst
  rw [if_pos (ok_of (by have := sizeLine_big; lia))]
@[simp] theorem ds_nil : ds [] = [] := rfl
@[simp] theorem ds_cons {x : Val} {r : List Val} : ds (x :: r) = x.d :: ds r := rfl
@[simp] theorem opLst_0 : opLst [] = some ⟨.O, .lst []⟩ := by rw [opLst_ap (by simp)]; rfl
@[simp] theorem opLst_1 {x : Val} : opLst [x] = some (if allO [x] then ⟨.O, .lst [x.d]⟩ else ⟨.S, .lst [x.d]⟩) := by rw [opLst_ap (by simp)]; rfl
@[simp] theorem opLst_2 {x y : Val} : opLst [x, y] = some (if allO [x, y] then ⟨.O, .lst [x.d, y.d]⟩ else ⟨.S, .lst [x.d, y.d]⟩) := by rw [opLst_ap (by simp)]; rfl
@[simp] theorem opLst_3 {x y z : Val} : opLst [x, y, z] = some (if allO [x, y, z] then ⟨.O, .lst [x.d, y.d, z.d]⟩ else ⟨.S, .lst [x.d, y.d, z.d]⟩) := by rw [opLst_ap (by simp)]; rfl
@[simp] theorem opLst_4 {x y z u : Val} : opLst [x, y, z, u] = some (if allO [x, y, z, u] then ⟨.O, .lst [x.d, y.d, z.d, u.d]⟩ else ⟨.S, .lst [x.d, y.d, z.d, u.d]⟩) := by rw [opLst_ap (by simp)]; rfl
@[simp] theorem opLst_len {rs : List Val} (h : rs.length ≤ 1000) : opLst rs = some (if allO rs then ⟨.O, .lst (ds rs)⟩ else ⟨.S, .lst (ds rs)⟩) := opLst_ap h
def itemsOf : D → Option (List D)
  | .lst ds => some ds
  | .tup ds => some ds
  | _ => none
@[simp] theorem itemsOf_lst {x : List D} : itemsOf (.lst x) = some x := rfl
@[simp] theorem itemsOf_tup {x : List D} : itemsOf (.tup x) = some x := rfl
@[simp] theorem iSq_eq {f : SE} : iSq f ρ = (match f ρ with
  | some (r, ρ1) => (match itemsOf r.d with
    | some ds => some (ds, ρ1)
    | none => none)
  | none => none) := by
  unfold iSq
  cases f ρ with
  | none => rfl
  | some x =>
    obtain ⟨⟨m, d⟩, ρ1⟩ := x
    cases d <;> rfl
@[simp] theorem sOSome_ap {f : SE} : sOSome f ρ = (match f ρ with
  | some (⟨_, .int i⟩, ρ1) => some (some i, restore ρ ρ1)
  | _ => none) := rfl
def cutOf (d : D) (lo hi : Option Int) : Option Val :=
  match d with
  | .lst xs => some (mkL (cut xs lo hi))
  | _ => none
@[simp] theorem sCut_ap {f : SE} {l u : Env → Option (Option Int × Env)} : sCut f l u ρ = (match f ρ with
  | some (r, ρ1) => (match l ρ1 with
    | some (lo, ρ2) => (match u ρ2 with
      | some (hi, ρ3) => (match cutOf r.d lo hi with
        | some r => if r.m = .O then some (r, restore ρ ρ3) else some (r, ρ3)
        | none => none)
      | none => none)
    | none => none)
  | none => none) := by
  unfold sCut sealE
  cases e1 : f ρ with
  | none => simp [e1]
  | some x =>
    obtain ⟨⟨m, d⟩, ρ1⟩ := x
    cases e2 : l ρ1 with
    | none => simp [e1, e2]
    | some y =>
      obtain ⟨lo, ρ2⟩ := y
      cases e3 : u ρ2 with
      | none => simp [e1, e2, e3]
      | some z =>
        obtain ⟨hi, ρ3⟩ := z
        cases d <;> simp [e1, e2, e3, cutOf]
theorem cut_to {β : Type} (xs : List β) (n : Nat) : cut xs none (some (n : Int)) = xs.take n := by
  unfold cut
  rw [HT.sIx_none, HT.sIx_nat]
  simp
def dl (f : α → D) (xs : List α) : D := .lst (xs.map f)
abbrev il (xs : List Int) : D := dl D.int xs
variable {f : α → D} {xs ys : List α}
@[simp] theorem flat_dl : D.flat (dl f xs) = false := rfl
@[simp] theorem isNon_dl : D.isNon (dl f xs) = false := rfl
@[simp] theorem nrm_dl : nrm m (dl f xs) = ⟨m, dl f xs⟩ := rfl
@[simp] theorem par_dl : par (dl f xs) = ⟨.F, false, dl f xs⟩ := rfl
@[simp] theorem itemsOf_dl : itemsOf (dl f xs) = some (xs.map f) := rfl
@[simp] theorem opLen_dl : opLen [⟨m, dl f xs⟩] = some ⟨.O, .int xs.length⟩ := by simp [opLen, dl]
@[simp] theorem kidL_O : kidL .O = .O := rfl
@[simp] theorem kidL_F : kidL .F = .F := rfl
@[simp] theorem kidL_S : kidL .S = .F := rfl
theorem dl_inj {f : α → D} (hf : ∀ a b, f a = f b → a = b) {xs ys : List α} : (dl f xs = dl f ys) = (xs = ys) := by
  apply propext
  constructor
  · intro h
    simp only [dl, D.lst.injEq] at h
    exact List.map_inj_right (fun a b => hf a b) |>.mp h
  · rintro rfl; rfl
@[simp] theorem il_inj {xs ys : List Int} : (il xs = il ys) = (xs = ys) := dl_inj fun a b h => by cases h; rfl
theorem idx_dl {k : Nat} {x : α} (h : xs[k]? = some x) : opIdx [⟨m, dl f xs⟩, ⟨p, .int (k : Int)⟩] = some (nrm (kidL m) (f x)) := by
  obtain ⟨hk, ha⟩ := List.getElem?_eq_some_iff.mp h
  have h0 : ((k : Int)).toNat = k := by lia
  simp [opIdx, dl, atI, ixN, hk, h0, ha]
theorem mkL_flat (h : ∀ x ∈ xs, (f x).flat = true) : mkL (xs.map f) = ⟨.O, dl f xs⟩ := by
  have q : ∀ ys : List α, (∀ x ∈ ys, (f x).flat = true) → D.flats (ys.map f) = true := fun ys => by
    induction ys with
    | nil => intro _; rfl
    | cons y ys ih =>
      intro h
      simp [h y (by simp), ih fun x hx => h x (by simp [hx])]
  unfold mkL
  rw [if_pos (q xs h)]
  rfl
@[simp] theorem mkL_il {xs : List Int} : mkL (xs.map D.int) = ⟨.O, il xs⟩ := mkL_flat fun _ _ => rfl
@[simp] theorem opAdd_il {xs ys : List Int} : opAdd [⟨m, il xs⟩, ⟨p, il ys⟩] = if ok (xs.length + ys.length ≤ sizeLine) = true then some ⟨.O, il (xs ++ ys)⟩ else none := by
  have e : opAdd [⟨m, il xs⟩, ⟨p, il ys⟩] = if ok ((xs.map D.int).length + (ys.map D.int).length ≤ sizeLine) = true then some (mkL (xs.map D.int ++ ys.map D.int)) else none := rfl
  rw [e, ← List.map_append, mkL_il]
  simp
@[simp] theorem opMul_il {xs : List Int} {k : Int} : opMul [⟨m, il xs⟩, ⟨p, .int k⟩] = if ok (-(2 ^ 63) ≤ k ∧ k < 2 ^ 63 ∧ xs.length * k.toNat ≤ sizeLine) = true then some ⟨.O, il (List.replicate k.toNat xs).flatten⟩ else none := by
  have e : opMul [⟨m, il xs⟩, ⟨p, .int k⟩] = if ok (-(2 ^ 63) ≤ k ∧ k < 2 ^ 63 ∧ (xs.map D.int).length * k.toNat ≤ sizeLine) = true then some (mkL (List.replicate k.toNat (xs.map D.int)).flatten) else none := rfl
  have e2 : (List.replicate k.toNat (xs.map D.int)).flatten = ((List.replicate k.toNat xs).flatten).map D.int := by rw [List.map_flatten, List.map_replicate]
  rw [e, e2, mkL_il]
  simp
@[simp] theorem opList_il {xs : List Int} : opList [⟨m, il xs⟩] = some ⟨.O, il xs⟩ := by
  have e : opList [⟨m, il xs⟩] = some (mkL (xs.map D.int)) := rfl
  rw [e, mkL_il]
theorem cutOf_il {xs : List Int} {lo hi : Option Int} : cutOf (il xs) lo hi = some ⟨.O, il (cut xs lo hi)⟩ := by
  have e : cutOf (il xs) lo hi = some (mkL (cut (xs.map D.int) lo hi)) := rfl
  have e2 : cut (xs.map D.int) lo hi = (cut xs lo hi).map D.int := by unfold cut; simp
  rw [e, e2, mkL_il]
@[simp] theorem cutOf_ilTo {xs : List Int} {n : Nat} : cutOf (il xs) none (some (n : Int)) = some ⟨.O, il (xs.take n)⟩ := by rw [cutOf_il, cut_to]
@[simp] theorem pyOk_il {xs : List Int} : pyOk (il xs) = true := pyOk_ints
@[simp] theorem py_dl : (dl f xs).py = .list (D.pys (xs.map f)) := by simp [dl]
@[simp] theorem opEq_il {xs ys : List Int} : opEq [⟨m, il xs⟩, ⟨p, il ys⟩] = some ⟨.O, .bl (decide (xs = ys))⟩ := by simp [opEq, eqv_ints]
@[simp] theorem opNe_il {xs ys : List Int} : opNe [⟨m, il xs⟩, ⟨p, il ys⟩] = some ⟨.O, .bl (!decide (xs = ys))⟩ := by simp [opNe, eqv_ints]
theorem relock_lock1 (a b : Option Slot) (h : relock a b = a) : relock a (lock1 b) = a := by
  cases b with
  | none => exact h
  | some b =>
    cases a with
    | none => simp [relock] at h
    | some a =>
      simp only [relock, Option.some.injEq] at h
      simp only [lock1, relock, Option.some.injEq]
      rw [← h]
      split <;> rfl
theorem restore_unhide {ls vs : List Nat} {ρ' : Env} (h : restore ρ ρ1 = ρ) : restore ρ (unhide ls [] vs ρ1 ρ') = ρ := by
  have hl : ρ.length = ρ1.length := by
    have := congrArg List.length h
    rw [restore_len] at this
    exact this.symm
  have hl2 : ρ.length = (unhide ls [] vs ρ1 ρ').length := by unfold unhide; rw [List.length_mapIdx]; exact hl
  apply List.ext_getElem?
  intro i
  have e : (restore ρ ρ1)[i]? = ρ[i]? := by rw [h]
  rw [restore_get _ _ hl] at e
  rw [restore_get _ _ hl2, unhide_get]
  cases ea : ρ[i]? with
  | none =>
    rw [ea] at e
    have e1 : ρ1[i]? = none := List.getElem?_eq_none (by have := List.getElem?_eq_none_iff.mp ea; lia)
    rw [e1]
    rfl
  | some a =>
    rw [ea] at e
    cases eb : ρ1[i]? with
    | none => rw [eb] at e; cases e
    | some b =>
      rw [eb] at e
      simp only [Option.some.injEq, Option.map_some] at e ⊢
      split
      · exact e
      · simp only [List.contains_nil, Bool.false_eq_true, if_false]
        split
        · exact relock_lock1 _ _ e
        · exact e
theorem lcGo_gen {g : STg} {t : SB} {f : SE} {vs : List Nat} {ρh : Env} (E : D → Env) (P : D → Bool) (F : D → D) : ∀ (ds : List D) (acc : List Val), acc.length + ds.length ≤ sizeLine →
    (∀ d ∈ ds, g (nrm .F d) ρh = some (E d)) → (∀ d ∈ ds, wipeE vs (E d) = ρh) → (∀ d ∈ ds, t (E d) = some (P d, E d)) → (∀ d ∈ ds, P d = true → f (E d) = some (⟨.O, F d⟩, E d)) →
    lcGo g t f vs ds ρh acc = some (acc ++ (ds.filter P).map (fun d => ⟨.O, F d⟩), ρh)
  | [], acc, _, _, _, _, _ => by simp [lcGo]
  | d :: ds, acc, hl, hg, hw, ht, hf => by
    have hl2 : ok (acc.length < sizeLine) = true := ok_of (by simp at hl; lia)
    rw [lcGo, hg d (by simp)]
    simp only
    rw [ht d (by simp)]
    by_cases hp : P d = true
    · have ih := lcGo_gen E P F ds (acc ++ [⟨.O, F d⟩]) (by simp at hl ⊢; lia) (fun x hx => hg x (by simp [hx])) (fun x hx => hw x (by simp [hx])) (fun x hx => ht x (by simp [hx])) (fun x hx => hf x (by simp [hx]))
      simp [hp, hf d (by simp) hp, hl2, hw d (by simp), ih]
    · have ih := lcGo_gen E P F ds acc (by simp at hl ⊢; lia) (fun x hx => hg x (by simp [hx])) (fun x hx => hw x (by simp [hx])) (fun x hx => ht x (by simp [hx])) (fun x hx => hf x (by simp [hx]))
      simp [hp, hw d (by simp), ih]
theorem allO_mapO {F : D → D} : ∀ ds : List D, allO (ds.map fun d => (⟨.O, F d⟩ : Val)) = true
  | [] => rfl
  | d :: ds => by simp [allO_mapO (F := F) ds]
/-- a comprehension of closed things -/
theorem sLc_gen {ls vs : List Nat} {src : SI} {g : STg} {t : SB} {f : SE} {ds : List D} (E : D → Env) (P : D → Bool) (F : D → D) (h1 : src ρ = some (ds, ρ1)) (hr : restore ρ ρ1 = ρ) (hl : ds.length ≤ sizeLine)
    (hg : ∀ d ∈ ds, g (nrm .F d) (hide ls [] vs ρ1) = some (E d)) (hw : ∀ d ∈ ds, wipeE vs (E d) = hide ls [] vs ρ1) (ht : ∀ d ∈ ds, t (E d) = some (P d, E d)) (hf : ∀ d ∈ ds, P d = true → f (E d) = some (⟨.O, F d⟩, E d)) :
    sLc ls [] vs src g t f ρ = some (⟨.O, .lst ((ds.filter P).map F)⟩, ρ) := by
  have q := lcGo_gen (g := g) (t := t) (f := f) (vs := vs) E P F ds [] (by simpa using hl) hg hw ht hf
  have e : ∀ l : List D, (List.map (fun d => (⟨.O, F d⟩ : Val)) l).map (fun (x : Val) => x.d) = l.map F := fun l => by simp
  simp [sLc, sealE, h1, q, esOk, allO_mapO, restore_unhide hr]
/-- over like things -/
theorem sLc_dlL {β : Type} {ls vs : List Nat} {src : SI} {g : STg} {e : SE} {xs : List α} {f : α → D} {h : β → D} (E : α → Env) (F : α → β) (h1 : src ρ = some (xs.map f, ρ1)) (hr : restore ρ ρ1 = ρ) (hl : xs.length ≤ sizeLine)
    (hg : ∀ x ∈ xs, g (nrm .F (f x)) (hide ls [] vs ρ1) = some (E x)) (hw : ∀ x ∈ xs, wipeE vs (E x) = hide ls [] vs ρ1) (hf : ∀ x ∈ xs, e (E x) = some (⟨.O, h (F x)⟩, E x)) :
    sLc ls [] vs src g sYes e ρ = some (⟨.O, dl h (xs.map F)⟩, ρ) := by
  have q : ∀ (l : List α) (acc : List Val), acc.length + l.length ≤ sizeLine → (∀ x ∈ l, x ∈ xs) → lcGo g sYes e vs (l.map f) (hide ls [] vs ρ1) acc = some (acc ++ l.map (fun x => ⟨.O, h (F x)⟩), hide ls [] vs ρ1) := by
    intro l
    induction l with
    | nil => intro acc _ _; simp [lcGo]
    | cons x l ih =>
      intro acc hl hm
      have hx := hm x (by simp)
      have hl2 : ok (acc.length < sizeLine) = true := ok_of (by simp at hl; lia)
      rw [List.map_cons, lcGo, hg x hx]
      simp [hf x hx, hl2, hw x hx, ih (acc ++ [⟨.O, h (F x)⟩]) (by simp at hl ⊢; lia) (fun y hy => hm y (by simp [hy]))]
  have al : ∀ l : List α, allO (l.map fun x => (⟨.O, h (F x)⟩ : Val)) = true := fun l => by
    induction l with
    | nil => rfl
    | cons x l ih => simp [ih]
  have e2 : ∀ l : List α, (List.map (fun x => (⟨.O, h (F x)⟩ : Val)) l).map (fun (x : Val) => x.d) = (l.map F).map h := fun l => by simp
  have q1 := q xs [] (by simpa using hl) fun x hx => hx
  simp [sLc, sealE, h1, q1, esOk, al, restore_unhide hr, dl]
theorem sLc_dl {β : Type} {ls vs : List Nat} {src : SI} {g : STg} {e : SE} {xs : List α} {f : α → D} {h : β → D} (E : α → Env) (F : α → β) (h1 : src ρ = some (xs.map f, ρ)) (hl : xs.length ≤ sizeLine)
    (hg : ∀ x ∈ xs, g (nrm .F (f x)) (hide ls [] vs ρ) = some (E x)) (hw : ∀ x ∈ xs, wipeE vs (E x) = hide ls [] vs ρ) (hf : ∀ x ∈ xs, e (E x) = some (⟨.O, h (F x)⟩, E x)) :
    sLc ls [] vs src g sYes e ρ = some (⟨.O, dl h (xs.map F)⟩, ρ) := sLc_dlL E F h1 (restore_self _) hl hg hw hf
theorem small_of {i : Int} (h : -1000000 ≤ i ∧ i ≤ 1000000) : small i = true := ok_of (by lia)
theorem sizeN {n k : Nat} (h : n ≤ k) (hk : k ≤ 1000000 := by decide) : n ≤ sizeLine := by have := sizeLine_big; lia
/-- one time round: the item is bound, the body is run -/
def once (g : STg) (b : SS) (d : D) (ρ : Env) : Option Out :=
  match g (nrm .F d) ρ with
  | some ρ1 => b ρ1
  | none => none
@[simp] theorem once_ap {g : STg} {b : SS} {d : D} : once g b d ρ = (match g (nrm .F d) ρ with
  | some ρ1 => b ρ1
  | none => none) := rfl
theorem sFor_list {α : Type} {src : SI} {g : STg} {b : SS} {f : α → D} {xs : List α} (P : Nat → Env → Prop) (h : src ρ = some (xs.map f, ρ1)) (h0 : P 0 (freeze2 ρ ρ1))
    (hs : ∀ k x ρ, xs[k]? = some x → P k ρ → nxIs (once g b (f x) ρ) (P (k + 1))) : ∃ ρ', sFor src g b ρ = some (.nx ρ') ∧ P xs.length ρ' := by
  obtain ⟨ρ', e, q⟩ := for_inv (t := g) (b := b) P (xs.map f) 0 (freeze2 ρ ρ1) h0 (by
    intro k d ρ hd hp
    rw [List.getElem?_map] at hd
    cases hx : xs[k]? with
    | none => rw [hx] at hd; cases hd
    | some x =>
      rw [hx] at hd
      cases hd
      have q := hs k x ρ hx (by simpa using hp)
      unfold once at q
      cases e1 : g (nrm .F (f x)) ρ with
      | none => rw [e1] at q; cases q
      | some ρ1 =>
        rw [e1] at q
        obtain ⟨ρ2, e2, p2⟩ := nxIs_ex q
        exact ⟨ρ1, ρ2, rfl, e2, by simpa using p2⟩)
  refine ⟨ρ', ?_, by simpa using q⟩
  rw [sFor_ap, h]
  exact e
theorem sFor_up {src : SI} {g : STg} {b : SS} {n : Nat} {lo : Int} (P : Nat → Env → Prop) (h : src ρ = some (up lo n, ρ1)) (h0 : P 0 (freeze2 ρ ρ1))
    (hs : ∀ k ρ, k < n → P k ρ → nxIs (once g b (.int (lo + k)) ρ) (P (k + 1))) : ∃ ρ', sFor src g b ρ = some (.nx ρ') ∧ P n ρ' := by
  obtain ⟨ρ', e, q⟩ := sFor_list (ρ := ρ) (src := src) (g := g) (b := b) (f := fun k : Nat => D.int (lo + (k : Int))) (xs := List.range n) P h h0 (by
    intro k x ρ hx hp
    have hk : k < n := by have := lt_of_get hx; simpa using this
    rw [List.getElem?_range hk] at hx
    cases hx
    exact hs k ρ hk hp)
  exact ⟨ρ', e, by simpa using q⟩
theorem sFor_up0 {src : SI} {g : STg} {b : SS} {n : Nat} (P : Nat → Env → Prop) (h : src ρ = some (up 0 n, ρ1)) (h0 : P 0 (freeze2 ρ ρ1))
    (hs : ∀ k ρ, k < n → P k ρ → nxIs (once g b (.int (k : Int)) ρ) (P (k + 1))) : ∃ ρ', sFor src g b ρ = some (.nx ρ') ∧ P n ρ' :=
  sFor_up P h h0 fun k ρ hk hp => by rw [Int.zero_add]; exact hs k ρ hk hp
theorem up_dl {n : Nat} : up 0 n = (List.range n).map fun (k : Nat) => D.int (k : Int) := by unfold up; simp
end
end Tr
namespace Tr
open PySem L2
section
variable {m p q : Mode} {a b : Int} {ρ ρ1 ρ2 : Env} {α : Type} {f : SE} {g : SE} {i : Nat} {h : α → D} {xs : List α} {lk : Bool}
@[simp] theorem opAddI_ii : opAddI [⟨m, .int a⟩, ⟨p, .int b⟩] = some ⟨.O, .int (a + b)⟩ := rfl
@[simp] theorem isLst_lst {x : List D} : isLst (some (some ⟨m, lk, .lst x⟩)) = true := rfl
@[simp] theorem isLst_dl : isLst (some (some ⟨m, lk, dl h xs⟩)) = true := rfl
@[simp] theorem all_const {β : Type} (xs : List β) : (xs.all fun _ => true) = true := by rw [List.all_eq_true]; simp
@[simp] theorem isi_list : opIsi [⟨m, dl h xs⟩, ⟨p, .ty "list"⟩] = some ⟨.O, .bl true⟩ := rfl
@[simp] theorem isi_ii : opIsi [⟨m, .int a⟩, ⟨p, .ty "int"⟩] = some ⟨.O, .bl true⟩ := rfl
@[simp] theorem isi_ib : opIsi [⟨m, .int a⟩, ⟨p, .ty "bool"⟩] = some ⟨.O, .bl false⟩ := rfl
@[simp] theorem isi_tup {x : List D} : opIsi [⟨m, .tup x⟩, ⟨p, .ty "tuple"⟩] = some ⟨.O, .bl true⟩ := rfl
@[simp] theorem isi_bl_int {x : Bool} : opIsi [⟨m, .bl x⟩, ⟨p, .ty "int"⟩] = some ⟨.O, .bl true⟩ := rfl
@[simp] theorem isi_bl_bool {x : Bool} : opIsi [⟨m, .bl x⟩, ⟨p, .ty "bool"⟩] = some ⟨.O, .bl true⟩ := rfl
@[simp] theorem isi_bl_list {x : Bool} : opIsi [⟨m, .bl x⟩, ⟨p, .ty "list"⟩] = some ⟨.O, .bl false⟩ := rfl
@[simp] theorem isi_bl_tuple {x : Bool} : opIsi [⟨m, .bl x⟩, ⟨p, .ty "tuple"⟩] = some ⟨.O, .bl false⟩ := rfl
@[simp] theorem isi_bl_str {x : Bool} : opIsi [⟨m, .bl x⟩, ⟨p, .ty "str"⟩] = some ⟨.O, .bl false⟩ := rfl
@[simp] theorem isi_int_list {x : Int} : opIsi [⟨m, .int x⟩, ⟨p, .ty "list"⟩] = some ⟨.O, .bl false⟩ := rfl
@[simp] theorem isi_int_tuple {x : Int} : opIsi [⟨m, .int x⟩, ⟨p, .ty "tuple"⟩] = some ⟨.O, .bl false⟩ := rfl
@[simp] theorem isi_int_str {x : Int} : opIsi [⟨m, .int x⟩, ⟨p, .ty "str"⟩] = some ⟨.O, .bl false⟩ := rfl
@[simp] theorem isi_non_int  : opIsi [⟨m, .non⟩, ⟨p, .ty "int"⟩] = some ⟨.O, .bl false⟩ := rfl
@[simp] theorem isi_non_bool  : opIsi [⟨m, .non⟩, ⟨p, .ty "bool"⟩] = some ⟨.O, .bl false⟩ := rfl
@[simp] theorem isi_non_list  : opIsi [⟨m, .non⟩, ⟨p, .ty "list"⟩] = some ⟨.O, .bl false⟩ := rfl
@[simp] theorem isi_non_tuple  : opIsi [⟨m, .non⟩, ⟨p, .ty "tuple"⟩] = some ⟨.O, .bl false⟩ := rfl
@[simp] theorem isi_non_str  : opIsi [⟨m, .non⟩, ⟨p, .ty "str"⟩] = some ⟨.O, .bl false⟩ := rfl
@[simp] theorem isi_str_int {x : Str} : opIsi [⟨m, .str x⟩, ⟨p, .ty "int"⟩] = some ⟨.O, .bl false⟩ := rfl
@[simp] theorem isi_str_bool {x : Str} : opIsi [⟨m, .str x⟩, ⟨p, .ty "bool"⟩] = some ⟨.O, .bl false⟩ := rfl
@[simp] theorem isi_str_list {x : Str} : opIsi [⟨m, .str x⟩, ⟨p, .ty "list"⟩] = some ⟨.O, .bl false⟩ := rfl
@[simp] theorem isi_str_tuple {x : Str} : opIsi [⟨m, .str x⟩, ⟨p, .ty "tuple"⟩] = some ⟨.O, .bl false⟩ := rfl
@[simp] theorem isi_str_str {x : Str} : opIsi [⟨m, .str x⟩, ⟨p, .ty "str"⟩] = some ⟨.O, .bl true⟩ := rfl
@[simp] theorem isi_lst_int {x : List D} : opIsi [⟨m, .lst x⟩, ⟨p, .ty "int"⟩] = some ⟨.O, .bl false⟩ := rfl
@[simp] theorem isi_lst_bool {x : List D} : opIsi [⟨m, .lst x⟩, ⟨p, .ty "bool"⟩] = some ⟨.O, .bl false⟩ := rfl
@[simp] theorem isi_lst_list {x : List D} : opIsi [⟨m, .lst x⟩, ⟨p, .ty "list"⟩] = some ⟨.O, .bl true⟩ := rfl
@[simp] theorem isi_lst_tuple {x : List D} : opIsi [⟨m, .lst x⟩, ⟨p, .ty "tuple"⟩] = some ⟨.O, .bl false⟩ := rfl
@[simp] theorem isi_lst_str {x : List D} : opIsi [⟨m, .lst x⟩, ⟨p, .ty "str"⟩] = some ⟨.O, .bl false⟩ := rfl
@[simp] theorem isi_tup_int {x : List D} : opIsi [⟨m, .tup x⟩, ⟨p, .ty "int"⟩] = some ⟨.O, .bl false⟩ := rfl
@[simp] theorem isi_tup_bool {x : List D} : opIsi [⟨m, .tup x⟩, ⟨p, .ty "bool"⟩] = some ⟨.O, .bl false⟩ := rfl
@[simp] theorem isi_tup_list {x : List D} : opIsi [⟨m, .tup x⟩, ⟨p, .ty "list"⟩] = some ⟨.O, .bl false⟩ := rfl
@[simp] theorem isi_tup_str {x : List D} : opIsi [⟨m, .tup x⟩, ⟨p, .ty "str"⟩] = some ⟨.O, .bl false⟩ := rfl
@[simp] theorem isi_scr_int {x : List Int} : opIsi [⟨m, .scr x⟩, ⟨p, .ty "int"⟩] = some ⟨.O, .bl false⟩ := rfl
@[simp] theorem isi_scr_bool {x : List Int} : opIsi [⟨m, .scr x⟩, ⟨p, .ty "bool"⟩] = some ⟨.O, .bl false⟩ := rfl
@[simp] theorem isi_scr_list {x : List Int} : opIsi [⟨m, .scr x⟩, ⟨p, .ty "list"⟩] = some ⟨.O, .bl true⟩ := rfl
@[simp] theorem isi_scr_tuple {x : List Int} : opIsi [⟨m, .scr x⟩, ⟨p, .ty "tuple"⟩] = some ⟨.O, .bl false⟩ := rfl
@[simp] theorem isi_scr_str {x : List Int} : opIsi [⟨m, .scr x⟩, ⟨p, .ty "str"⟩] = some ⟨.O, .bl false⟩ := rfl
@[simp] theorem isi_dl_int : opIsi [⟨m, dl h xs⟩, ⟨p, .ty "int"⟩] = some ⟨.O, .bl false⟩ := rfl
@[simp] theorem isi_dl_bool : opIsi [⟨m, dl h xs⟩, ⟨p, .ty "bool"⟩] = some ⟨.O, .bl false⟩ := rfl
@[simp] theorem isi_dl_tuple : opIsi [⟨m, dl h xs⟩, ⟨p, .ty "tuple"⟩] = some ⟨.O, .bl false⟩ := rfl
@[simp] theorem isi_dl_str : opIsi [⟨m, dl h xs⟩, ⟨p, .ty "str"⟩] = some ⟨.O, .bl false⟩ := rfl
@[simp] theorem par_d {d : D} : (par d).d = d := rfl
@[simp] theorem opTuple_il {xs : List Int} : opTuple [⟨m, il xs⟩] = some ⟨.O, .tup (xs.map D.int)⟩ := by
  have e : opTuple [⟨m, il xs⟩] = if D.flats (xs.map D.int) then some ⟨.O, .tup (xs.map D.int)⟩ else some ⟨.F, .tup (xs.map D.int)⟩ := rfl
  rw [e, flats_ints, if_pos rfl]
theorem opAdd_lst {x y : List D} : opAdd [⟨m, .lst x⟩, ⟨p, .lst y⟩] = if ok (x.length + y.length ≤ sizeLine) = true then some (mkL (x ++ y)) else none := rfl
@[simp] theorem opAll_dl {bs : List Bool} : opAll [⟨m, dl D.bl bs⟩] = some ⟨.O, .bl (bs.all id)⟩ := by
  have e : ∀ bs : List Bool, bls? (bs.map D.bl) = some bs := fun bs => by
    induction bs with
    | nil => rfl
    | cons b bs ih => simp [bls?, ih]
  simp [opAll, dl, e]
@[simp] theorem idx_tup0 {x : D} {r : List D} : opIdx [⟨m, .tup (x :: r)⟩, ⟨p, .int 0⟩] = some (nrm m x) := by simp [opIdx, atI, ixN]
@[simp] theorem idx_tup1 {x y : D} {r : List D} : opIdx [⟨m, .tup (x :: y :: r)⟩, ⟨p, .int 1⟩] = some (nrm m y) := by
  have h : (1 : Int) < (r.length : Int) + 1 + 1 := by lia
  simp [opIdx, atI, ixN, h]
@[simp] theorem idx_tup2 {x y z : D} {r : List D} : opIdx [⟨m, .tup (x :: y :: z :: r)⟩, ⟨p, .int 2⟩] = some (nrm m z) := by
  have h : (2 : Int) < (r.length : Int) + 1 + 1 + 1 := by lia
  simp [opIdx, atI, ixN, h]
@[simp] theorem opEq_pair {a b c d : List Int} : opEq [⟨m, .tup [il a, il b]⟩, ⟨p, .tup [il c, il d]⟩] = some ⟨.O, .bl (decide (a = c ∧ b = d))⟩ := by
  rw [opEq_ap, if_pos (by simp [pyOk_tup, dl, goods_ints])]
  simp [eqv_ints]
@[simp] theorem opNe_pair {a b c d : List Int} : opNe [⟨m, .tup [il a, il b]⟩, ⟨p, .tup [il c, il d]⟩] = some ⟨.O, .bl (!decide (a = c ∧ b = d))⟩ := by
  rw [opNe_ap, if_pos (by simp [pyOk_tup, dl, goods_ints])]
  simp [eqv_ints]
noncomputable def apnd (s : Slot) (r : Val) : Option Slot :=
  match s with
  | ⟨m, _, .lst xs⟩ =>
    if ok (xs.length < sizeLine) = true then
      match m with
      | .O =>
        if r.m = .O then some ⟨.O, false, .lst (xs ++ [r.d])⟩
        else if r.m = .F ∧ D.flats xs = true then some ⟨.S, false, .lst (xs ++ [r.d])⟩
        else none
      | .S => if r.m = .F ∨ r.d.flat = true then some ⟨.S, false, .lst (xs ++ [r.d])⟩ else none
      | .F => none
    else none
  | _ => none
@[simp] theorem sApnd_ap : sApnd i f ρ = if isLst ρ[i]? = true then (match f ρ with
    | some (r, ρ1) => (match (settle ρ r ρ1)[i]? with
      | some (some s) => (match apnd s r with
        | some s' => some (.nx ((settle ρ r ρ1).set i (some s')))
        | none => none)
      | _ => none)
    | none => none) else none := by
  unfold sApnd
  split
  · cases f ρ with
    | none => rfl
    | some x =>
      obtain ⟨r, ρ1⟩ := x
      simp only
      cases (settle ρ r ρ1)[i]? with
      | none => rfl
      | some s =>
        cases s with
        | none => rfl
        | some s =>
          obtain ⟨m, lk, d⟩ := s
          cases d with
          | lst xs =>
            simp only [apnd]
            split
            · cases m <;> simp only
              · split <;> rfl
              · split
                · rfl
                · split <;> rfl
            · rfl
          | _ => rfl
  · rfl
theorem apnd_O {x : α} (hl : ok (xs.length < sizeLine) = true) : apnd ⟨.O, lk, dl h xs⟩ ⟨.O, h x⟩ = some ⟨.O, false, dl h (xs ++ [x])⟩ := by
  simp [apnd, dl, hl]
@[simp] theorem apnd_il {xs : List Int} : apnd ⟨.O, lk, il xs⟩ ⟨.O, .int a⟩ = if ok (xs.length < sizeLine) = true then some ⟨.O, false, il (xs ++ [a])⟩ else none := by
  simp [apnd, dl]
def putS (r : Val) (s : Slot) (k : Int) : Option Slot :=
  match s with
  | ⟨m, _, .lst xs⟩ =>
    match ixN xs.length k with
    | some j =>
      match m with
      | .O =>
        if r.m = .O then some ⟨.O, false, .lst (xs.set j r.d)⟩
        else if r.m = .F ∧ D.flats xs = true then some ⟨.S, false, .lst (xs.set j r.d)⟩
        else none
      | .S => if r.m = .F ∨ r.d.flat = true then some ⟨.S, false, .lst (xs.set j r.d)⟩ else none
      | .F => none
    | none => none
  | _ => none
@[simp] theorem putAt_ap {r : Val} {k : Int} : putAt r ρ i k = (match ρ[i]? with
    | some (some s) => (match putS r s k with
      | some s' => some (ρ.set i (some s'))
      | none => none)
    | _ => none) := by
  unfold putAt
  cases ρ[i]? with
  | none => rfl
  | some s =>
    cases s with
    | none => rfl
    | some s =>
      obtain ⟨m, lk, d⟩ := s
      cases d with
      | lst xs =>
        simp only [putS]
        cases ixN xs.length k with
        | none => rfl
        | some j =>
          cases m <;> simp only
          · split <;> rfl
          · split
            · rfl
            · split <;> rfl
      | _ => rfl
@[simp] theorem sGSub_ap {r : Val} : sGSub i g r ρ = if isLst ρ[i]? = true then (match g ρ with
    | some (⟨_, .int k⟩, ρ1) => putAt r (restore ρ ρ1) i k
    | _ => none) else none := rfl
def intAt (s : Slot) (k : Int) : Option Int :=
  match s with
  | ⟨_, _, .lst xs⟩ => (match atI xs k with
    | some (.int a) => some a
    | _ => none)
  | _ => none
@[simp] theorem sAugS_ap {op : Int → Int → Int} : sAugS i op g f ρ = if isLst ρ[i]? = true then (match g ρ with
    | some (⟨_, .int k⟩, ρ1) => (match (restore ρ ρ1)[i]? with
      | some (some s) => (match intAt s k with
        | some old => (match f (restore ρ ρ1) with
          | some (⟨_, .int y⟩, ρ2) => (match putAt ⟨.O, .int (op old y)⟩ (restore (restore ρ ρ1) ρ2) i k with
            | some ρ3 => some (.nx ρ3)
            | none => none)
          | _ => none)
        | none => none)
      | _ => none)
    | _ => none) else none := by
  unfold sAugS
  split
  · cases g ρ with
    | none => rfl
    | some x =>
      obtain ⟨⟨mk, dk⟩, ρ1⟩ := x
      cases dk with
      | int k =>
        simp only
        cases (restore ρ ρ1)[i]? with
        | none => rfl
        | some s =>
          cases s with
          | none => rfl
          | some s =>
            obtain ⟨m, lk, d⟩ := s
            cases d with
            | lst xs =>
              simp only [intAt]
              cases atI xs k with
              | none => rfl
              | some o => cases o <;> rfl
            | _ => rfl
      | _ => rfl
  · rfl
end
end Tr
namespace Tr
open PySem PySem.Spec PyProof.Rows L2 RZ
/-- the tests of all items, as truths -/
def pkAll (v : Nat) (ls : List Nat) (tf : SB) (ρ : Env) : List D → Option (List Bool)
  | [] => some []
  | d :: ds =>
    match tf ((hide ls [] [v] ρ).set v (some (par d))) with
    | some (b, _) => (pkAll v ls tf ρ ds).map (b :: ·)
    | none => none
/-- the picked, by the truths -/
def pkd {α : Type} : List α → List Bool → List α
  | x :: xs, b :: bs => if b = true then x :: pkd xs bs else pkd xs bs
  | _, _ => []
theorem pkd_snoc {α : Type} {x : α} {b : Bool} : ∀ {xs : List α} {bs : List Bool}, xs.length = bs.length → pkd (xs ++ [x]) (bs ++ [b]) = pkd xs bs ++ (if b = true then [x] else [])
  | [], [], _ => by cases b <;> rfl
  | y :: ys, c :: cs, h => by
    have ih := pkd_snoc (x := x) (b := b) (xs := ys) (bs := cs) (by simpa using h)
    rw [List.cons_append, List.cons_append, pkd, pkd, ih]
    split <;> simp
  | [], c :: cs, h => by simp at h
  | y :: ys, [], h => by simp at h
theorem pkd_len {α : Type} : ∀ {xs : List α} {bs : List Bool}, (pkd xs bs).length ≤ xs.length
  | [], _ => by simp [pkd]
  | x :: xs, [] => by simp [pkd]
  | x :: xs, b :: bs => by
    have ih := pkd_len (xs := xs) (bs := bs)
    rw [pkd]
    split
    · rw [List.length_cons, List.length_cons]; omega
    · rw [List.length_cons]; omega
theorem pkd_none {α : Type} : ∀ {xs : List α} {bs : List Bool}, bs.findIdx? id = none → pkd xs bs = []
  | [], _, _ => by simp [pkd]
  | x :: xs, [], _ => by simp [pkd]
  | x :: xs, b :: bs, h => by
    rw [List.findIdx?_cons] at h
    cases b with
    | true => simp at h
    | false =>
      simp at h
      rw [pkd, if_neg (by decide)]
      exact pkd_none (by simpa using h)
theorem pkd_some {α : Type} : ∀ {xs : List α} {bs : List Bool} {k : Nat} {x : α}, bs.findIdx? id = some k → xs[k]? = some x → ∃ r, pkd xs bs = x :: r
  | [], _, k, x, _, h => by simp at h
  | y :: ys, [], k, x, h, _ => by simp at h
  | y :: ys, b :: bs, k, x, h, hx => by
    rw [List.findIdx?_cons] at h
    cases b with
    | true =>
      simp at h
      subst h
      simp at hx
      subst hx
      exact ⟨_, by rw [pkd, if_pos rfl]⟩
    | false =>
      simp at h
      obtain ⟨k', hk', rfl⟩ := h
      rw [List.getElem?_cons_succ] at hx
      obtain ⟨r, e⟩ := pkd_some (xs := ys) (bs := bs) (by simpa using hk') hx
      exact ⟨r, by rw [pkd, if_neg (by decide), e]⟩
/-- j the list, v the block's name, i what is picked, s what is added -/
noncomputable def sPick (j v i s : Nat) (ls : List Nat) (tf : SB) (fA : SS) : SS := fun ρ =>
  match ρ[j]? with
  | some (some ⟨.O, false, .lst ds⟩) =>
    if ok (j ∈ ls ∧ j ≠ v ∧ j ≠ i ∧ v ≠ i ∧ s ≠ i ∧ s ≠ j ∧ i < ρ.length ∧ v < ρ.length ∧ ds.length < sizeLine) && ok (∀ bs, pkAll v ls tf ρ ds = some bs → opEq [⟨.F, .lst (pkd ds bs)⟩, ⟨.O, .lst []⟩] = some ⟨.O, .bl (bs.findIdx? id).isNone⟩) then
      match pkAll v ls tf ρ ds with
      | some bs =>
        match bs.findIdx? id with
        | none => fA (ρ.set i none)
        | some k =>
          match ds[k]?, ρ[s]? with
          | some (.lst [x, .int y]), some (some ⟨_, _, .int z⟩) => some (.nx ((ρ.set i none).set j (some ⟨.O, false, .lst (ds.set k (.lst [x, .int (y + z)]))⟩)))
          | _, _ => none
      | none => none
    else none
  | _ => none
section
variable {W : Wd} {ρ ρ' ρ1 ρ2 : Env} {σ σ' σ1 σ2 : L2.St} {H F G H' F' G' H1 F1 G1 : Hp} {As As' As1 : Nat → List Addr} {B : List Addr}
theorem reps_pkd {H G : Hp} : ∀ {ds : List D} {vs : List V} {bs : List Bool}, Reps W H G .F ds vs [] → Reps W H G .F (pkd ds bs) (pkd vs bs) []
  | [], _, _, h => by
    cases h
    simp only [pkd]
    exact .nil _
  | d :: ds, vs, bs, h => by
    generalize e : ([] : List Addr) = Z at h
    cases h with
    | @cons _ _ _ v vs A B r h =>
      have := List.append_eq_nil_iff.mp e.symm
      obtain ⟨rfl, rfl⟩ := this
      cases bs with
      | nil => simp only [pkd]; exact .nil _
      | cons b bs =>
        have ih := reps_pkd (bs := bs) h
        cases b with
        | true =>
          rw [pkd, pkd, if_pos rfl, if_pos rfl]
          exact .cons (A := []) (B := []) r ih
        | false =>
          rw [pkd, pkd, if_neg (by decide), if_neg (by decide)]
          exact ih
theorem sta_more (S : Sta W ρ σ H G G (fun _ => [])) (h1 : Same G G') (h2 : Same G' H) : Sta W ρ σ H G' G' (fun _ => []) := by
  refine ⟨S.len, fun i s h => ?_, (fun i s h l a ha => nomatch ha), (fun i s h l a ha => nomatch ha), (fun _ _ => rfl), (fun _ => List.nodup_nil), (fun _ _ _ h => nomatch h), (fun _ _ h => nomatch h), Same.refl _, h2⟩
  obtain ⟨v, hv, r⟩ := S.slot i s h
  exact ⟨v, hv, r.mono (fun _ _ z => z) h1 fun _ z => nomatch z⟩
/-- a slot is filled with what is looked at -/
theorem fill_sta {i : Nat} {d : D} {x : V} (hp : W.pin i = false) (S : Sta W ρ σ H G G (fun _ => [])) (n : NoLk ρ) (hi : i < ρ.length) (r : Rep W H G (par d).m (par d).d x []) : ∃ F3 As3, Step W [] ρ σ H G (fun _ => []) (ρ.set i (some (par d))) (σ.set i (some x)) H F3 As3 := by
  have q := sim_gname (W := W) i (ws := [i]) (by simp) hp ρ σ H G (fun _ => []) ⟨(par d).m, (par d).d⟩ x [] (ρ.set i (some (par d))) (fun σ3 H3 => ∃ F3 As3, Step W [] ρ σ H G (fun _ => []) (ρ.set i (some (par d))) σ3 H3 F3 As3) S n r tmp_nil (by
    show setSlot _ _ _ = _
    unfold setSlot
    rw [if_pos hi]
    rfl) fun σ3 H3 F3 As3 r3 w3 => ⟨F3, As3, r3⟩
  exact q
theorem no_unl {ρ3 : Env} {σ3 : L2.St} {H3 F3 : Hp} {As3 : Nat → List Addr} (r3 : Step W [] ρ σ H G (fun _ => []) ρ3 σ3 H3 F3 As3) {a : Addr} {o : HO} (e : H a = some o) : ¬ Unl ρ3 As3 a := fun ⟨i', s', _, _, ha⟩ => by
  rcases r3.an i' a ha with y | ⟨_, y⟩ | y
  · rw [y] at e; cases e
  · cases y
  · cases y
/-- all is looked at: the state as a comprehension's block sees it -/
theorem look_sta (ls vs : List Nat) (S : Sta W ρ σ H F F As) : ∃ G, Sta W (hide ls [] vs ρ) (wipe σ vs) H G G (fun _ => []) ∧ NoLk (hide ls [] vs ρ) ∧ Same F G := by
  obtain ⟨S1, n1, s1⟩ := hide_sta (ls := ls) (es := []) (vs := vs) S rfl
  have e : blkA [] vs As = fun _ => [] := by
    funext i
    unfold blkA
    simp
  rw [e] at S1
  exact ⟨_, S1, n1, s1⟩
theorem test_nil {i : Nat} {xs : List D} {b : Bool} (h : ρ[i]? = some (some ⟨.F, false, .lst xs⟩)) (e : opEq [⟨.F, .lst xs⟩, ⟨.O, .lst []⟩] = some ⟨.O, .bl b⟩) : sTest (sApp2 opEq (sVar i) (sApp opLst sNil)) ρ = some (b, ρ) := by
  have ol : opLst [] = some ⟨.O, .lst []⟩ := by
    have z : ok (([] : List Val).length ≤ sizeLine) = true := ok_of (Nat.zero_le _)
    show (if ok (([] : List Val).length ≤ sizeLine) then _ else none) = _
    rw [if_pos z]; rfl
  simp [sTest, sApp2, sApp, sealE, sCons, sNil, h, D.flat, ol, e]
theorem pkAll_get {v : Nat} {ls : List Nat} {tf : SB} : ∀ {ds : List D} {bs : List Bool}, pkAll v ls tf ρ ds = some bs → ds.length = bs.length ∧ ∀ (k : Nat) (d : D), ds[k]? = some d → ∃ b ρ', bs[k]? = some b ∧ tf ((hide ls [] [v] ρ).set v (some (par d))) = some (b, ρ')
  | [], bs, h => by
    cases h
    exact ⟨rfl, fun k d h => by simp at h⟩
  | d :: ds, bs, h => by
    rw [pkAll] at h
    split at h
    case h_2 => cases h
    rename_i b ρ' e
    cases h2 : pkAll v ls tf ρ ds with
    | none => rw [h2] at h; cases h
    | some cs =>
      rw [h2] at h
      cases h
      obtain ⟨l, g⟩ := pkAll_get h2
      refine ⟨by simp [l], fun k d' hk => ?_⟩
      cases k with
      | zero =>
        simp at hk
        subst hk
        exact ⟨b, ρ', rfl, e⟩
      | succ k =>
        simp only [List.getElem?_cons_succ] at hk ⊢
        exact g k d' hk
theorem sim_pick {j v i s : Nat} {ls : List Nat} {tt : TT} {tf : SB} {tc : TT} {tA : TS} {fA : SS} {t0 t1 te : TE} (hpv : W.pin v = false) (hpi : W.pin i = false)
    (ht : SimT W tt tf) (hc : SimT W tc (sTest (sApp2 opEq (sVar i) (sApp opLst sNil)))) (hA : SimS W tA fA) (h0 : SimE W t0 (sCon (.int 0))) (h1 : SimE W t1 (sCon (.int 1))) (he : SimE W te (sVar s)) :
    SimS W (tSeq (tAsg (tLc (iSeq W.K (tVar j)) (gName v) tt (tVar v) [v]) (gName i)) (tIfS tc tA (tAugS (tOp (rIx W.K) (tVar i) t0) t1 te (rIxL W.K) (ipI fun a b => a + b) rSetL))) (sPick j v i s ls tf fA) := by
  intro ρ σ H F As D out S n e k
  unfold sPick at e
  split at e
  case h_2 => cases e
  rename_i ds hs
  split at e
  case isFalse => cases e
  rename_i hh
  rw [Bool.and_eq_true] at hh
  obtain ⟨hjl, jv, ji, vi, si, sj, il, vl, dsz⟩ := of_ok hh.1
  have heq := of_ok hh.2
  split at e
  case h_2 => cases e
  rename_i bs hbs
  obtain ⟨lb, gb⟩ := pkAll_get hbs
  obtain ⟨l, vs, A, hv, hl, hA0, rs⟩ := own_list S hs (by decide)
  have lz : ds.length = vs.length := rs.len
  -- the list's items, looked at
  have look : ∀ {H' : Hp} (vv : List Nat), j ∉ vv → (∀ a o, H a = some o → H' a = some o) → ∃ G, Sta W (hide ls [] vv ρ) (wipe σ vv) H' G G (fun _ => []) ∧ NoLk (hide ls [] vv ρ) ∧ Reps W H' G .F ds vs [] := fun {H'} vv hjv g => by
    obtain ⟨G, S1, n1, s1⟩ := look_sta ls vv (S.grow g)
    have hh2 : (hide ls [] vv ρ)[j]? = some (some ⟨.F, false, .lst ds⟩) := by
      have q1 : view1 (some ⟨.O, false, .lst ds⟩) = some ⟨.F, false, .lst ds⟩ := rfl
      have q2 : ls.contains j = true := by simpa using hjl
      have q3 : ([] : List Nat).contains j = false := rfl
      have q4 : vv.contains j = false := by simpa using hjv
      rw [hide_get, hs, Option.map_some, q4, q3, q2, q1]
      rfl
    obtain ⟨w, hw, r⟩ := S1.slot j _ hh2
    have hw2 : (wipe σ vv)[j]? = σ[j]? := wipe_out hjv
    rw [hw2, hv] at hw
    cases hw
    have r : Rep W H' G .F (.lst ds) (.ref l) [] := r
    cases r with
    | lstF h r2 =>
      have := S1.gh _ _ h
      rw [g _ _ hl] at this
      cases this
      exact ⟨G, S1, n1, r2⟩
  refine ⟨.ref l, hv, l, rfl, .inl ⟨⟨vs, SqL.of hl⟩, fun Dn hD => ?_⟩⟩
  refine ⟨fun t m H' => m = ds.length - t ∧ t ≤ ds.length ∧ H' Dn = some (.lst (pkd (vs.take t) (bs.take t))) ∧ ∀ a o, H a = some o → H' a = some o,
    ⟨ds.length, by simp, Nat.zero_le _, by simp [pkd, upd_same], upd_keep hD⟩, ?_⟩
  rintro t m H' ⟨rfl, hle, hacc, hg⟩
  have hl' : H' l = some (.lst vs) := hg _ _ hl
  by_cases hlt : t < ds.length
  · obtain ⟨G, S1, n1, rr⟩ := look [v] (by simpa using jv) hg
    obtain ⟨x0, hx0, rx⟩ := reps_at rr (List.getElem?_eq_getElem hlt)
    obtain ⟨b, ρb, hb, eb⟩ := gb t _ (List.getElem?_eq_getElem hlt)
    have tk1 : vs.take (t + 1) = vs.take t ++ [x0] := by
      have tl := lt_of_get hx0
      rw [List.take_succ_eq_append_getElem tl]
      rw [List.getElem?_eq_getElem tl] at hx0
      rw [Option.some.inj hx0]
    have tk2 : bs.take (t + 1) = bs.take t ++ [b] := by
      have tl := lt_of_get hb
      rw [List.take_succ_eq_append_getElem tl]
      rw [List.getElem?_eq_getElem tl] at hb
      rw [Option.some.inj hb]
    have pk := pkd_snoc (x := x0) (b := b) (xs := vs.take t) (bs := bs.take t) (by rw [List.length_take, List.length_take]; omega)
    rw [← tk1, ← tk2] at pk
    refine .inr ⟨⟨vs, _, SqL.of hl', hx0⟩, fun H2 => H2 Dn = some (.lst (pkd (vs.take (t + 1)) (bs.take (t + 1)))) ∧ ∀ a o, H a = some o → H2 a = some o,
      fun H2 ⟨z1, z2⟩ => ⟨ds.length - (t + 1), by omega, rfl, hlt, z1, z2⟩, ?_⟩
    rintro x H2 ⟨eH, y⟩
    have eH := eH.symm
    subst eH
    have ex := y vs (SqL.of hl')
    rw [hx0] at ex
    cases ex
    have vl2 : v < (hide ls [] [v] ρ).length := by unfold hide; rw [List.length_mapIdx]; exact vl
    obtain ⟨F3, As3, r3⟩ := fill_sta (W := W) hpv S1 n1 vl2 (rep_par rx)
    have vl3 : v < (wipe σ [v]).length := by rw [wipe_length, ← S.len]; exact vl
    have hw : wipe ((wipe σ [v]).set v (some x0)) [v] = wipe σ [v] := by
      have q := wipe_eq (vs := [v]) (σ' := (wipe σ [v]).set v (some x0)) (σ := wipe σ [v]) (by simp) fun j' hj' => List.getElem?_set_ne fun z => hj' (by simp [z])
      rw [q, wipe_wipe]
    refine ⟨hw, ?_⟩
    refine ht _ _ H' F3 F3 As3 b ρb _ r3.st eb fun H4 As4 p4 nn => ?_
    have g4 : ∀ a o, H' a = some o → H4 a = some o := fun a o e => p4.keep a o e (no_unl r3 e)
    have gH : ∀ a o, H a = some o → H4 a = some o := fun a o e => g4 a o (hg a o e)
    have lacc : (pkd (vs.take t) (bs.take t)).length < sizeLine := by
      have := pkd_len (xs := vs.take t) (bs := bs.take t)
      rw [List.length_take] at this
      omega
    have Dfresh : ∀ a o, H a = some o → a ≠ Dn := fun a o e z => by rw [z, hD] at e; cases e
    cases b with
    | false =>
      refine iteF ⟨?_, gH⟩
      rw [pk, if_neg (by decide), List.append_nil]
      exact g4 _ _ hacc
    | true =>
      refine iteT ?_
      have h3v : ((wipe σ [v]).set v (some x0))[v]? = some (some x0) := List.getElem?_set_self vl3
      refine ⟨x0, h3v, _, g4 _ _ hacc, lacc, ?_, fun a o e => by rw [upd_ne (Dfresh a o e)]; exact gH a o e⟩
      rw [pk, if_pos rfl, upd_same]
  · have et : t = ds.length := by omega
    subst et
    have hacc : H' Dn = some (.lst (pkd vs bs)) := by
      have e1 : vs.take ds.length = vs := List.take_of_length_le (by omega)
      have e2 : bs.take ds.length = bs := List.take_of_length_le (by omega)
      rwa [e1, e2] at hacc
    refine .inl ⟨⟨vs, SqL.of hl', by omega⟩, ?_⟩
    show tIfS tc tA _ D (σ.set i (some (.ref Dn))) H'
    obtain ⟨σ6, hσ⟩ : ∃ σ6, σ6 = σ.set i (some (.ref Dn)) := ⟨_, rfl⟩
    rw [← hσ]
    obtain ⟨ρ6, hρ⟩ : ∃ ρ6, ρ6 = ρ.set i none := ⟨_, rfl⟩
    have isl : i < σ.length := by rw [← S.len]; exact il
    have h6i : σ6[i]? = some (some (.ref Dn)) := by rw [hσ]; exact List.getElem?_set_self isl
    obtain ⟨As6, hAs⟩ : ∃ As6 : Nat → List Addr, As6 = fun k => if k = i then [] else As k := ⟨_, rfl⟩
    have base : ∀ H4, (∀ a o, H a = some o → H4 a = some o) → Step W [] ρ σ H F As ρ6 σ6 H4 F As6 := fun H4 g4 => by
      have q1 := grow_step S n g4
      have q2 := forget_step i q1.st q1.nl
      have q3 := fill_step (i := i) (x := .ref Dn) hpi q2.st q2.nl fun s z => by
        rw [List.getElem?_set_self il] at z
        cases z
      rw [hρ, hσ, hAs]
      exact (q1.trans q2 fun _ z => nomatch z).trans q3 fun _ z => nomatch z
    -- the test
    obtain ⟨G, S1, n1, rr⟩ := look [] (by simp) hg
    have S1 : Sta W (hide ls [] [] ρ) σ H' G G (fun _ => []) := S1
    obtain ⟨G', hG'⟩ : ∃ G' : Hp, G' = fun a => if a = Dn then some (.lst (pkd vs bs)) else G a := ⟨_, rfl⟩
    have gD : G' Dn = some (.lst (pkd vs bs)) := by rw [hG']; exact if_pos rfl
    have gG : Same G G' := fun a o e => by
      by_cases z : a = Dn
      · subst z
        have := S1.gh _ _ e
        rw [hacc] at this
        cases this
        exact gD
      · rw [hG']
        show (if a = Dn then _ else G a) = _
        rw [if_neg z]; exact e
    have gH' : Same G' H' := fun a o e => by
      by_cases z : a = Dn
      · subst z
        rw [gD] at e
        cases e
        exact hacc
      · rw [hG'] at e
        have e : (if a = Dn then some (.lst (pkd vs bs)) else G a) = some o := e
        rw [if_neg z] at e
        exact S1.gh _ _ e
    have rp : Rep W H' G' .F (.lst (pkd ds bs)) (.ref Dn) [] := .lstF gD (reps_pkd (rr.mono (fun _ _ z => z) gG fun _ z => nomatch z))
    have il2 : i < (hide ls [] [] ρ).length := by unfold hide; rw [List.length_mapIdx]; exact il
    obtain ⟨F3, As3, r3⟩ := fill_sta (W := W) hpi (sta_more S1 gG gH') n1 il2 (d := .lst (pkd ds bs)) rp
    rw [← hσ] at r3
    refine hc _ σ6 H' F3 F3 As3 _ _ _ r3.st (test_nil (List.getElem?_set_self il2) (heq bs hbs)) fun H5 As5 p5 nn => ?_
    have g5 : ∀ a o, H' a = some o → H5 a = some o := fun a o e => p5.keep a o e (no_unl r3 e)
    have st := base H5 fun a o e => g5 a o (hg a o e)
    have hD5 : H5 Dn = some (.lst (pkd vs bs)) := g5 _ _ hacc
    cases ek : bs.findIdx? id with
    | none =>
      rw [ek] at e
      rw [Option.isNone_none]
      refine iteT ?_
      have e : fA (ρ.set i none) = some out := e
      rw [← hρ] at e
      exact hA ρ6 σ6 H5 F As6 D out st.st st.nl e (k.trans st)
    | some kx =>
      rw [ek] at e
      rw [Option.isNone_some]
      refine iteF ?_
      simp only at e
      split at e
      case h_2 => cases e
      rename_i x y ms lk z hdk hsz
      cases e
      have hs6 : ρ6[j]? = some (some ⟨.O, false, .lst ds⟩) := by rw [hρ, List.getElem?_set_ne (Ne.symm ji)]; exact hs
      have hz6 : ρ6[s]? = some (some ⟨ms, lk, .int z⟩) := by rw [hρ, List.getElem?_set_ne (Ne.symm si)]; exact hsz
      have Dn6 : ∀ k, Dn ∉ As6 k := fun k hk => by
        have hk2 : Dn ∈ As k := by
          rw [hAs] at hk
          have hk : Dn ∈ (if k = i then [] else As k) := hk
          split at hk
          · cases hk
          · exact hk
        obtain ⟨o, eo, _⟩ := S.own hk2
        rw [hD] at eo
        cases eo
      obtain ⟨G0, As0, p0⟩ := lock_post st.st hs6 rfl
      have hs0 := get_set_same (y := some ⟨.O, true, .lst ds⟩) hs6
      obtain ⟨w, hw, rv⟩ := p0.st.slot j _ hs0
      have hwj : σ6[j]? = σ[j]? := by rw [hσ]; exact List.getElem?_set_ne (Ne.symm ji)
      rw [hwj, hv] at hw
      cases hw
      obtain ⟨ρL, hρL⟩ : ∃ ρL, ρL = ρ6.set j (some ⟨.O, true, .lst ds⟩) := ⟨_, rfl⟩
      rw [← hρL] at p0 hs0
      have hzL : ρL[s]? = some (some ⟨ms, lk, .int z⟩) := by rw [hρL, List.getElem?_set_ne (Ne.symm sj)]; exact hz6
      refine ⟨.ref Dn, h6i, ?_⟩
      refine h0 ρL σ6 H5 F G0 As0 ⟨.O, .int 0⟩ ρL _ p0.st rfl fun x0 H6 G1 As1 B1 p1 rx0 _ _ => ?_
      have ex0 : x0 = .int 0 := by cases rx0; rfl
      subst ex0
      have noD : ∀ {a : Addr} {o : HO}, H5 a = some o → (∀ k, a ∉ As6 k) → ∀ k, a ∉ As0 k := fun {a o} e h k hk => by
        rcases p0.an k a hk with ⟨k', q⟩ | q
        · exact h k' q
        · rw [q] at e; cases e
      have D0 := noD hD5 Dn6
      have hD6 : H6 Dn = some (.lst (pkd vs bs)) := p1.keep _ _ hD5 fun ⟨k, _, _, _, q⟩ => D0 k q
      have hs1 := (p1.lk j _ hs0 rfl).1
      have foc1 : Foc W H6 F (As1 j) (.lst ds) (.ref l) [] (.ref l) (.lst ds) := (Foc.base rv).post p0.st hs0 p1
      obtain ⟨l', vs', hw', hl6, hz6', fk⟩ := foc1.lst
      cases hw'
      have : vs' = vs := by
        have q := p1.keep _ _ (g5 _ _ hl') fun u => by
          obtain ⟨k, s', e1, e2, e3⟩ := u
          obtain ⟨_, _, _, hvv, hlv, hAv, _⟩ := own_list p0.st hs0 (by decide)
          rw [hwj, hv] at hvv
          cases hvv
          have := p0.st.dj k j l e3 (by rw [hAv]; simp)
          subst this
          rw [hs0] at e1
          cases e1
          cases e2
        rw [hl6] at q
        cases q
        rfl
      subst this
      obtain ⟨u, eu, fu⟩ := fk kx _ hdk
      obtain ⟨rest, epk⟩ := pkd_some (xs := vs') (bs := bs) ek eu
      refine .inl ⟨Dn, pkd vs' bs, 0, u, rfl, rfl, SqL.of hD6, by rw [epk]; exact atI_of (j := 0) (by simp [ixN]) rfl, ?_⟩
      refine h1 ρL σ6 H6 F G1 As1 ⟨.O, .int 1⟩ ρL _ p1.st rfl fun x1 H7 G2 As2 B2 p2 rx1 _ _ => ?_
      have ex1 : x1 = .int 1 := by cases rx1; rfl
      subst ex1
      have hs2 := (p2.lk j _ hs1 rfl).1
      have foc2 := fu.post p1.st hs1 p2
      obtain ⟨a0, us, rfl, ha0, hzu, fk2⟩ := foc2.lst
      obtain ⟨u1, eu1, fu1⟩ := fk2 1 (.int y) rfl
      have eu2 : u1 = .int y := by
        obtain ⟨_, _, _, _, _, r, _⟩ := fu1
        cases r; rfl
      subst eu2
      have ix1 : ixN us.length 1 = some 1 := by rw [hzu]; rfl
      refine ⟨a0, us, 1, _, rfl, rfl, SqL.of ha0, atI_of ix1 eu1, ?_⟩
      have es : sVar s ρL = some (⟨.O, .int z⟩, ρL) := by
        unfold sVar
        rw [hzL]
        simp [Tr.D.flat]
      refine he ρL σ6 H7 F G2 As2 _ _ _ p2.st es fun x2 H8 G3 As7 B3 p3 rx2 _ _ => ?_
      have ex2 : x2 = .int z := by cases rx2; rfl
      subst ex2
      refine ⟨y, z, rfl, rfl, ?_⟩
      have hs3 := (p3.lk j _ hs2 rfl).1
      have foc3 := foc2.post p2.st hs2 p3
      have pp := p0.trans st.st (p1.trans p0.st (p2.trans p1.st p3))
      have hvj6 : σ6[j]? = some (some (.ref l)) := by rw [hwj]; exact hv
      obtain ⟨q, l', vs', A1, hw, hl', rr, nA, dA, fin⟩ := path_end (B := []) st.st st.nl hs6 pp hs3 hvj6 foc3 tmp_nil
      cases hw
      obtain ⟨C, r1, n1, s1⟩ := reps_set (k := 1) (Rep.int (W := W) (H := H8) (G := F) .O (y + z)) List.nodup_nil rr (by simp) nA (fun _ _ z => nomatch z)
      obtain ⟨As4, stf⟩ := fin _ _ _ r1 n1 s1
      have er : restore ρ6 ρL = ρ6 := by
        refine List.ext_getElem? fun k => ?_
        rw [restore_get _ _ (by rw [hρL, List.length_set])]
        by_cases kj : k = j
        · subst kj
          rw [hs6, hs0]
          rfl
        · have : ρL[k]? = ρ6[k]? := by rw [hρL]; exact List.getElem?_set_ne (Ne.symm kj)
          rw [this]
          cases ρ6[k]? with
          | none => rfl
          | some a => cases a <;> rfl
      rw [er] at q stf
      have ep : Tr.D.put (.lst ds) ([] ++ [.ix kx]) (.lst ([x, .int y].set 1 (.int (y + z)))) = .lst (ds.set kx (.lst [x, .int (y + z)])) := by
        show Tr.D.put (.lst ds) [.ix kx] _ = _
        simp only [Tr.D.put, hdk]
        rfl
      rw [ep, hρ] at stf
      have ix2 : ixN vs'.length 1 = some 1 := by
        have := rr.len
        rw [← this]; rfl
      refine ⟨a0, vs', 1, 1, rfl, rfl, hl', ix2, k _ _ _ _ (Step.trans (B := []) (st.trans q (fun _ z => nomatch z)) (by rw [hρ]; exact stf) (fun _ z => nomatch z))⟩
end
section
variable {W : Wd} {X : Cx} {pos : Pos}
theorem eb_pick {j v i s : Nat} {y : Str} {py spos ipos : Pos} {elt tg iter t : Expr} {ifs : List Expr} {scope : Scope} {own : List (Str × Nat)} {gf : STg} {tf : SB} {f sv : SE} {tt tc : TT} {A : List Stmt} {fA : SS} {tA : TS} {sAug : Stmt} {fAug : SS} (ls : List Nat) (hc : X.calm = true) (hN : X.N.Nodup)
    (hsw : swapsWith (.ListComp elt [⟨tg, iter, ifs, 0⟩] scope pos) (some (.Name y py)) spos.line X.env = pure true) (hl : EvE W X iter sv (tVar j)) (ok : BlkOk X.N X.env.scope scope own)
    (hg : ∀ (s : Shared) (H : Hp) (C : Addr) (cl : List (Str × Addr)) (fp : List Addr), EvG W (X.blk s H scope (compEnvC scope cl C X.env) fp) (own.map (·.2)) tg gf (gName v)) (ht : ∀ (s : Shared) (H : Hp) (C : Addr) (cl : List (Str × Addr)) (fp : List Addr), EvF W (X.blk s H scope (compEnvC scope cl C X.env) fp) ifs tf tt) (he : ∀ (s : Shared) (H : Hp) (C : Addr) (cl : List (Str × Addr)) (fp : List Addr), EvE W (X.blk s H scope (compEnvC scope cl C X.env) fp) elt f (tVar v))
    (hif : EvT W X t (sTest (sApp2 opEq (sVar i) (sApp opLst sNil))) tc) (hA : EvB W X A fA tA) (hag : EvS W X sAug fAug (tAugS (tOp (rIx W.K) (tVar i) (tC (.int 0))) (tC (.int 1)) (tVar s) (rIxL W.K) (ipI fun a b => a + b) rSetL))
    (hown : own.map (·.2) = [v] := by rfl)
    (hy : X.N[i]? = some y := by rfl) (hyl : X.env.scope.names.lookup y = some .local := by rfl) (hs : ∀ x, foldedSetIterable iter X.env x = pure x := by intro _; rfl) (hpin : W.pin v = false := by rfl) (hpin0 : W.pin i = false := by rfl) (hK : X.K = W.K := by rfl) :
    EvB W X [.Assign [.Name y py] (.ListComp elt [⟨tg, iter, ifs, 0⟩] scope pos) spos, .If t A [sAug] ipos] (sPick j v i s ls tf fA) (tSeq (tAsg (tLc (iSeq W.K (tVar j)) (gName v) tt (tVar v) [v]) (gName i)) (tIfS tc tA (tAugS (tOp (rIx W.K) (tVar i) (tC (.int 0))) (tC (.int 1)) (tVar s) (rIxL W.K) (ipI fun a b => a + b) rSetL))) :=
  have pl := ps_setLc (wi := iSeq W.K (tVar j)) hc hN hy hyl hsw (hK ▸ pi_seq hl.1) ok (fun s H C cl fp => (hg s H C cl fp).1) (fun s H C cl fp => (ht s H C cl fp).1) (fun s H C cl fp => (he s H C cl fp).1) hs
  ⟨pss_cons (hown ▸ pl) (pss_one (es_if hif hA (eb_one hag) (pos := ipos)).1), sim_pick hpin hpin0 (ht X.s_0 X.H_0 0 [] []).2 hif.2 hA.2 (sim_con fun _ _ => .int _ _) (sim_con fun _ _ => .int _ _) (sim_var s)⟩
def sGLst (gs : List D → Mode → Env → Option Env) : STg := fun r ρ =>
  match r with
  | ⟨.F, .lst ds⟩ => gs ds .F ρ
  | _ => none
theorem sim_glst {gs : TGs} {fs : List D → Mode → Env → Option Env} {ws : List Nat} {n : Nat} (hgs : SimGs W ws gs fs) (hn : ∀ ds m ρ ρ', fs ds m ρ = some ρ' → ds.length = n) : SimG W ws (gLst W.K n gs) (sGLst fs) := by
  intro ρ σ H F As r v B ρ' Q S nl rep t e k
  unfold sGLst at e
  split at e
  case h_2 => cases e
  rename_i ds
  have rep : Rep W H F .F (.lst ds) v B := rep
  cases rep with
  | lstF h rs => exact ⟨_, _, rfl, SqL.of (S.gh _ _ (S.fg _ _ h)), by rw [← rs.len]; exact hn _ _ _ _ e, hgs _ σ H F As ds .F _ [] _ _ S nl rs t e k⟩
theorem eg_lst {es : List Expr} {tgs : TGs} {ws : List Nat} {k n : Nat} {gfs : List D → Mode → Env → Option Env} (hc : X.calm = true) (h : EvGs W X ws es n gfs tgs) (hn : (assignEach es X.env).length = n := by rfl) (hst : (assignEach es X.env).findIdx? (·.1) = none := by rfl) (hK : X.K = W.K := by rfl) : EvG W X ws (.Tuple es k pos) (sGLst gfs) (gLst W.K n tgs) :=
  let ⟨⟨pb, sb⟩, l⟩ := h
  ⟨hK ▸ pg_lst hc pb hn hst, sim_glst sb l⟩
end
end Tr
namespace Tr
open PySem PySem.Spec PySem.W PyProof.Rows L2 RZ
/-- data in order -/
noncomputable def leD (a b : D) : Bool := dataLe false D.py a b
noncomputable def sortD (xs : List D) : List D := xs.mergeSort leD
def SrtOk (xs : List D) : Prop := D.plains xs = true ∧ AllAlike (xs.map D.py) ∧ Sortable (xs.map D.py) ∧ (∀ d ∈ xs, d.py.depth < 60) ∧ xs.length ≤ sizeLine
noncomputable def opSortD : List Val → Option Val
  | [⟨_, .lst xs⟩] => if ok (SrtOk xs) then some (mkL (sortD xs)) else none
  | _ => none
def rSortD (K : PySem.W.Frag) : List V → Hp → VK → Prop := fun vs H Q => ∃ (a : Addr) (ps : List (V × D)), vs = [V.ref a] ∧ SqL K H a (ps.map (·.1)) ∧ (∀ q ∈ ps, Dp K H q.1 q.2.py) ∧ AllAlike (ps.map fun q => q.2.py) ∧ Sortable (ps.map fun q => q.2.py) ∧ (∀ q ∈ ps, q.2.py.depth < 60) ∧
  ∀ p, H p = none → Q (.ref p) (upd H p (.lst ((ps.mergeSort (dataLe false fun q => q.2.py)).map (·.1))))
section
variable {X : Cx}
theorem each_vals : ∀ {ps : List (V × D)} {us : List Value}, Vals (ps.map (·.1)) us → EachIs (fun u q => L2.RelV q.1 u) us ps
  | [], _, h => by cases h; exact .nil
  | q :: ps, _, h => by
    cases h with
    | cons h1 h2 => exact .cons h1 (each_vals h2)
theorem vals_each {ps : List (V × D)} {us : List Value} (h : EachIs (fun u q => L2.RelV q.1 u) us ps) : Vals (ps.map (·.1)) us := by
  induction h with
  | nil => exact .nil
  | cons h1 _ ih => exact .cons h1 ih
theorem each_and {α β : Type} {R S : α → β → Prop} {as : List α} {bs : List β} (h : EachIs R as bs) (hs : ∀ a, ∀ b ∈ bs, R a b → S a b) : EachIs S as bs := by
  induction h with
  | nil => exact .nil
  | @cons a b as bs h1 _ ih => exact .cons (hs a b (by simp) h1) (ih fun a b hb => hs a b (by simp [hb]))
theorem cr_sortD (hu : X.A.units + 64 < cLine) : CallR X (.builtin "sorted") (rSortD X.K) := by
  intro pins s σ H vs us Q I r h
  obtain ⟨a, ps, rfl, hs, hd, hal, hk, hdp, q⟩ := h
  obtain ⟨its, rv, hl, hz⟩ := I.list hs
  obtain ⟨u, rfl, ru⟩ := vals1 r
  obtain rfl : u = Value.ref a := ru
  have el := rv.length
  rw [List.length_map] at el hz
  have e := each_vals rv
  refine sorted_data (R := fun u (q : V × D) => L2.RelV q.1 u) (enc := fun q : V × D => q.2.py) hl.isList e (each_and e fun u q hq hr => Dp.reads I _ _ _ (hd q hq) hr) hal hk hz (fun q hq => by have := hdp q hq; omega) fun out ho eo => ?_
  obtain ⟨n, hn⟩ := sortedAll_at s.heap its out.toArray
  refine ⟨.ref (s.heap.objs.size + 1), _, I.laid (t' := s.toks) (o := .lst ((ps.mergeSort (dataLe false fun q => q.2.py)).map (·.1))) (fun _ _ => sortedAll_old) (Nat.le_succ _) ⟨?_, out, n, vals_each eo, hn⟩, rfl, q _ (I.hok.fresh (Nat.le_succ _))⟩
  rw [List.length_map, List.length_mergeSort]
  exact hz
end
section
variable {W : Wd}
theorem plains_mem : ∀ {xs : List D}, D.plains xs = true → ∀ d ∈ xs, d.plain = true
  | [], _, _, z => nomatch z
  | x :: xs, h, d, hd => by
    rw [D.plains, Bool.and_eq_true] at h
    rcases List.mem_cons.mp hd with rfl | hd
    · exact h.1
    · exact plains_mem h.2 d hd
theorem reps_zip {H G : Hp} : ∀ {xs : List D} {vs : List V}, Reps W H G .F xs vs [] → ∀ q ∈ vs.zip xs, Rep W H G .F q.2 q.1 []
  | [], _, h => fun q hq => by simp at hq
  | d :: ds, vs, h => by
    generalize e : ([] : List Addr) = Z at h
    cases h with
    | @cons _ _ _ v vs A B r h =>
      have := List.append_eq_nil_iff.mp e.symm
      obtain ⟨rfl, rfl⟩ := this
      intro q hq
      rw [List.zip_cons_cons] at hq
      rcases List.mem_cons.mp hq with rfl | hq
      · exact r
      · exact reps_zip h q hq
theorem zip_reps {H G : Hp} : ∀ {ps : List (V × D)}, (∀ q ∈ ps, Rep W H G .F q.2 q.1 []) → Reps W H G .F (ps.map (·.2)) (ps.map (·.1)) []
  | [], _ => .nil _
  | q :: ps, h => .cons (A := []) (B := []) (h q (by simp)) (zip_reps fun q hq => h q (by simp [hq]))
theorem vop_sortD : VOp W (rSortD W.K) opSortD := by
  intro H G rs vs A r Q gh rep nd ga e k
  unfold opSortD at e
  split at e
  case h_2 => cases e
  rename_i m xs
  split at e
  case isFalse => cases e
  rename_i hq
  cases e
  obtain ⟨h1, h2, h3, h4, h5⟩ := of_ok hq
  obtain ⟨v, rfl, r1⟩ := repL1 rep
  obtain ⟨a, us, rfl, ha, ra⟩ := rep_lst gh r1 (lookAt_same ga) fun a z => lookAt_in z
  have el := ra.len
  have m1 : (us.zip xs).map (·.1) = us := List.map_fst_zip (by omega)
  have m2 : (us.zip xs).map (·.2) = xs := List.map_snd_zip (by omega)
  have m3 : (us.zip xs).map (fun q => q.2.py) = xs.map D.py := by
    rw [← m2, List.map_map, m2]; rfl
  have rz := reps_zip ra
  have mx : ∀ q ∈ us.zip xs, q.2 ∈ xs := fun q hq => (List.of_mem_zip hq).2
  refine ⟨a, us.zip xs, rfl, by rw [m1]; exact SqL.of ha, fun q hq => (rz q hq).dp (lookAt_sub gh) (plains_mem h1 _ (mx q hq)), by rw [m3]; exact h2, by rw [m3]; exact h3, fun q hq => h4 _ (mx q hq), fun p hp => ?_⟩
  have eq : ((us.zip xs).mergeSort (dataLe false fun q => q.2.py)).map (·.2) = sortD xs := by
    refine (sort_maps (s := leD) (fun q : V × D => q.2) fun _ _ _ _ => rfl).trans ?_
    rw [m2]; rfl
  have rr := zip_reps (ps := (us.zip xs).mergeSort (dataLe false fun q => q.2.py)) fun q hq => rz q (List.mem_mergeSort.mp hq)
  rw [eq] at rr
  obtain ⟨G', q⟩ := vpost_new gh ga hp rr
  exact k _ _ _ _ q
theorem ev_sortD {X : Cx} {e : Expr} {es : List Expr} {pos p : Pos} {fs : SA} {tA : TA} (hu : X.A.units + 64 < cLine) (hg : Gl X "sorted") (hm : X.mg "sorted" = none) (ha : EvA W X (e :: es) fs tA) (he : starEach (e :: es) X.env = (false, eval e X.env) :: starEach es X.env := by rfl) (hpl : (backTo pos (starEach es X.env)).any (·.1) = false := by rfl) (hK : X.K = W.K := by rfl) :
    EvE W X (.Call (.Name "sorted" p) (e :: es) [] pos) (sApp opSortD fs) (tCB (rSortD W.K) tA) := ev_blt (hK ▸ cr_sortD hu) vop_sortD hg hm (by decide +kernel) ha (by decide) (by decide) he hpl
end
end Tr
namespace Tr
open PySem L2
def frG (t b : Int) : Int := if b < 0 then 0 - (Int.gcd t b : Int) else (Int.gcd t b : Int)
def frT (t b : Int) : Int := t.fdiv (frG t b)
def frB (t b : Int) : Int := b.fdiv (frG t b)
theorem frG_ne {t b : Int} (h : b ≠ 0) : frG t b ≠ 0 := by
  have : Int.gcd t b ≠ 0 := by
    intro z
    exact h (Int.gcd_eq_zero_iff.mp z).2
  unfold frG
  split <;> lia
theorem frG_abs {t b : Int} : (frG t b).natAbs = Int.gcd t b := by
  unfold frG
  split <;> lia
theorem frG_dvd {t b : Int} : frG t b ∣ t ∧ frG t b ∣ b := by
  have h1 : ((Int.gcd t b : Nat) : Int) ∣ t := Int.gcd_dvd_left ..
  have h2 : ((Int.gcd t b : Nat) : Int) ∣ b := Int.gcd_dvd_right ..
  unfold frG
  split
  · rw [Int.zero_sub]
    exact ⟨Int.neg_dvd.mpr h1, Int.neg_dvd.mpr h2⟩
  · exact ⟨h1, h2⟩
theorem frT_mul {t b : Int} : frT t b * frG t b = t := by
  unfold frT
  rw [Int.fdiv_eq_ediv_of_dvd frG_dvd.1]
  exact Int.ediv_mul_cancel frG_dvd.1
theorem frB_mul {t b : Int} : frB t b * frG t b = b := by
  unfold frB
  rw [Int.fdiv_eq_ediv_of_dvd frG_dvd.2]
  exact Int.ediv_mul_cancel frG_dvd.2
theorem frB_pos {t b : Int} (h : b ≠ 0) : 0 < frB t b := by
  have e := frB_mul (t := t) (b := b)
  have g := frG_ne (t := t) h
  by_cases hb : b < 0
  · have hg : frG t b < 0 := by
      unfold frG at g ⊢
      rw [if_pos hb] at g ⊢
      lia
    refine Int.lt_of_not_ge fun z => ?_
    have := Int.mul_nonneg_of_nonpos_of_nonpos (a := frB t b) (b := frG t b) z (by lia)
    lia
  · have hg : 0 < frG t b := by
      unfold frG at g ⊢
      rw [if_neg hb] at g ⊢
      lia
    refine Int.lt_of_not_ge fun z => ?_
    have := Int.mul_nonpos_of_nonpos_of_nonneg (a := frB t b) (b := frG t b) z (by lia)
    lia
theorem fr_gcd {t b : Int} (h : b ≠ 0) : Int.gcd (frT t b) (frB t b) = 1 := by
  have g : 0 < Int.gcd t b := Nat.pos_of_ne_zero fun z => h (Int.gcd_eq_zero_iff.mp z).2
  have e : Int.gcd (frT t b * frG t b) (frB t b * frG t b) = Int.gcd t b := by rw [frT_mul, frB_mul]
  rw [Int.gcd_mul_right, frG_abs] at e
  exact Nat.eq_of_mul_eq_mul_right g (by lia)
theorem fr_cross {t b : Int} : frT t b * b = t * frB t b := by
  have e1 := frT_mul (t := t) (b := b)
  have e2 := frB_mul (t := t) (b := b)
  calc frT t b * b = frT t b * (frB t b * frG t b) := by rw [e2]
    _ = frT t b * frG t b * frB t b := by rw [Int.mul_assoc, Int.mul_comm (frG t b)]
    _ = t * frB t b := by rw [e1]
theorem fr_le {t b : Int} (h : b ≠ 0) : (frT t b).natAbs ≤ t.natAbs ∧ (frB t b).natAbs ≤ b.natAbs := by
  have g := frG_ne (t := t) h
  have e1 := congrArg Int.natAbs (frT_mul (t := t) (b := b))
  have e2 := congrArg Int.natAbs (frB_mul (t := t) (b := b))
  rw [Int.natAbs_mul] at e1 e2
  have g1 : 1 ≤ (frG t b).natAbs := by lia
  constructor
  · rw [← e1]; exact Nat.le_mul_of_pos_right _ g1
  · rw [← e2]; exact Nat.le_mul_of_pos_right _ g1
end Tr
namespace Tr
open PySem L2 RZ
def top (i : Nat) : Stmt := PySem.Challenge.pw_branchdepth_k25_whole_sides_put_together.main.body.getD i (.Pass ⟨0, 0, 0, 0⟩)
noncomputable def w_common_1 : SS := (sPar 0 1 (sCons (sVar 1) (sCons (sApp2 opMod (sVar 0) (sVar 1)) sNil)))
noncomputable def lp_common_1 : SS := (sWhile (sTest (sApp2 opNe (sVar 1) (sCon (.int 0)))) w_common_1)
noncomputable def b_common : SS := (sSeq lp_common_1
    (sRet (sApp opAbs (sCons (sVar 0) sNil))))
noncomputable def m_common : List D → Option Val := fnSem 2 2 b_common
theorem L_common : ∀ ds, (m_common ds).isSome = true → ds.length = 2 := fun _ h => fnSem_len h
noncomputable def b_is_less : SS := (sRet (sApp2 opLt (sApp2 opMul (sApp2 opIdx (sVar 0) (sCon (.int 0))) (sApp2 opIdx (sVar 1) (sCon (.int 1)))) (sApp2 opMul (sApp2 opIdx (sVar 1) (sCon (.int 0))) (sApp2 opIdx (sVar 0) (sCon (.int 1))))))
noncomputable def m_is_less : List D → Option Val := fnSem 2 2 b_is_less
theorem L_is_less : ∀ ds, (m_is_less ds).isSome = true → ds.length = 2 := fun _ h => fnSem_len h
noncomputable def lc_first_place_1 : SE := (sLc [] [] [1, 2] (iEnu (sCons (sVar 0) sNil)) (sGTup (sGCons (sGName 1) (sGCons (sGName 2) sGNil))) (sTest (sApp2 opNotN (sVar 2) (sCon .non))) (sVar 1))
noncomputable def b_first_place : SS := (sRet (sApp2 opIdx lc_first_place_1 (sCon (.int 0))))
noncomputable def m_first_place : List D → Option Val := fnSem 1 3 b_first_place
theorem L_first_place : ∀ ds, (m_first_place ds).isSome = true → ds.length = 1 := fun _ h => fnSem_len h
noncomputable def b_u_law_bag : SS := (sSeq (sSet 2 (sCon (.int 0)))
    (sSeq (sIf (sTest (sApp2 opLt (sVar 1) (sApp opLen (sCons (sVar 0) sNil)))) (sSet 2 (sApp2 opIdx (sVar 0) (sVar 1))) sSkip)
    (sSeq (sSet 3 (sCon (.int 0)))
    (sSeq (sIf (sTest (sApp2 opGe (sApp opAbs (sCons (sVar 2) sNil)) (sApp2 opPow (sCon (.int 10)) (sCon (.int 18))))) (sSet 3 (sApp opAbs (sCons (sVar 2) sNil))) sSkip)
    (sRet (sApp opLst (sCons (sMove 3) (sCons (sApp2 opAdd (sApp2 opMod (sApp2 opAdd (sApp2 opAdd (sVar 2) (sApp2 opMul (sCon (.int 7919)) (sVar 1))) (sCon (.int 13))) (sCon (.int 2147483629))) (sCon (.int 1))) sNil))))))))
noncomputable def m_u_law_bag : List D → Option Val := fnSem 2 4 b_u_law_bag
theorem L_u_law_bag : ∀ ds, (m_u_law_bag ds).isSome = true → ds.length = 2 := fun _ h => fnSem_len h
noncomputable def b_u_law_take : SS := (sSeq (sIf (sTest (sApp2 opGt (sApp2 opIdx (sVar 0) (sCon (.int 0))) (sCon (.int 0)))) (sSeq (sSet 2 (sApp2 opMod (sApp2 opIdx (sVar 0) (sCon (.int 0))) (sVar 1)))
    (sSeq (sAsg (sGSub 0 (sCon (.int 0))) (sApp2 opDiv (sApp2 opIdx (sVar 0) (sCon (.int 0))) (sVar 1)))
    (sRet (sMove 2)))) sSkip)
    (sSeq (sAsg (sGSub 0 (sCon (.int 1))) (sApp2 opMod (sApp2 opAdd (sApp2 opMul (sApp2 opIdx (sVar 0) (sCon (.int 1))) (sCon (.int 48271))) (sCon (.int 11))) (sCon (.int 2147483647))))
    (sRet (sApp2 opMod (sApp2 opMod (sApp2 opMul (sApp2 opDiv (sApp2 opIdx (sVar 0) (sCon (.int 1))) (sCon (.int 8))) (sCon (.int 69621))) (sCon (.int 2147483629))) (sVar 1)))))
noncomputable def m_u_law_take : List D → Option (Val × D) := fnSemIO 2 3 b_u_law_take
theorem L_u_law_take : ∀ ds, (m_u_law_take ds).isSome = true → ds.length = 2 := fun _ h => fnSemIO_len h
noncomputable def w_u_law_low_1 : SS := (sSeq (sSet 4 (sApp2 opMod (sVar 2) (sVar 3)))
    (sSeq (sSet 2 (sMove 3))
    (sSet 3 (sMove 4))))
noncomputable def lp_u_law_low_1 : SS := (sWhile (sTest (sApp2 opGt (sVar 3) (sCon (.int 0)))) w_u_law_low_1)
noncomputable def b_u_law_low : SS := (sSeq (sPar 2 3 (sCons (sApp opAbs (sCons (sVar 0) sNil)) (sCons (sApp opAbs (sCons (sVar 1) sNil)) sNil)))
    (sSeq lp_u_law_low_1
    (sSeq (sIf (sTest (sApp2 opLt (sVar 1) (sCon (.int 0)))) (sSet 2 (sApp1 opNeg (sVar 2))) sSkip)
    (sRet (sApp opTup (sCons (sApp2 opDiv (sVar 0) (sVar 2)) (sCons (sApp2 opDiv (sVar 1) (sVar 2)) sNil)))))))
noncomputable def m_u_law_low : List D → Option Val := fnSem 2 5 b_u_law_low
theorem L_u_law_low : ∀ ds, (m_u_law_low ds).isSome = true → ds.length = 2 := fun _ h => fnSem_len h
noncomputable def w_u_law_lengths_1 : SS := (sApnd 1 (sApp opLst (sCons (sMove 4) (sCons (sApp2 opSub (sVar 3) (sVar 2)) sNil))))
noncomputable def lp_u_law_lengths_1 : SS := (sFor (iSq (sVar 0)) (sGTup (sGCons (sGName 2) (sGCons (sGName 3) (sGCons (sGName 4) sGNil)))) w_u_law_lengths_1)
noncomputable def b_u_law_lengths : SS := (sSeq (sSet 1 (sApp opLst sNil))
    (sSeq lp_u_law_lengths_1
    (sRet (sMove 1))))
noncomputable def m_u_law_lengths : List D → Option Val := fnSem 1 5 b_u_law_lengths
theorem L_u_law_lengths : ∀ ds, (m_u_law_lengths ds).isSome = true → ds.length = 1 := fun _ h => fnSem_len h
noncomputable def lc_u_law_merged_1 : SE := (sLc [] [] [3] (iSq (sVar 0)) (sGName 3) sYes (sApp opList (sCons (sVar 3) sNil)))
noncomputable def w_u_law_merged_1 : SS := (sPick 2 3 6 5 [2, 4] (sTest (sApp2 opEq (sApp2 opIdx (sVar 3) (sCon (.int 0))) (sVar 4))) (sApnd 2 (sApp opLst (sCons (sMove 4) (sCons (sMove 5) sNil)))))
noncomputable def lp_u_law_merged_1 : SS := (sFor (iSq (sVar 1)) (sGLst (sGCons (sGName 4) (sGCons (sGName 5) sGNil))) w_u_law_merged_1)
noncomputable def b_u_law_merged : SS := (sSeq (sSet 2 lc_u_law_merged_1)
    (sSeq lp_u_law_merged_1
    (sRet (sMove 2))))
noncomputable def m_u_law_merged : List D → Option Val := fnSem 2 7 b_u_law_merged
theorem L_u_law_merged : ∀ ds, (m_u_law_merged ds).isSome = true → ds.length = 2 := fun _ h => fnSem_len h
noncomputable def lc_u_law_begin_1 : SE := (sLc [0] [] [1] (iRange1 (sCons (sApp opLen (sCons (sVar 0) sNil)) sNil)) (sGName 1) (sTest (sApp2 opNotN (sApp2 opIdx (sVar 0) (sVar 1)) (sCon .non))) (sVar 1))
noncomputable def b_u_law_begin : SS := (sRet (sApp2 opIdx lc_u_law_begin_1 (sCon (.int 0))))
noncomputable def m_u_law_begin : List D → Option Val := fnSem 1 2 b_u_law_begin
theorem L_u_law_begin : ∀ ds, (m_u_law_begin ds).isSome = true → ds.length = 1 := fun _ h => fnSem_len h
noncomputable def b_fraction : SS := (sSeq (sSet 2 (sApp (opFn m_common) (sCons (sVar 0) (sCons (sVar 1) sNil))))
    (sSeq (sIf (sTest (sApp2 opLt (sVar 1) (sCon (.int 0)))) (sSet 2 (sApp2 opSub (sCon (.int 0)) (sVar 2))) sSkip)
    (sRet (sApp opTup (sCons (sApp2 opDiv (sVar 0) (sVar 2)) (sCons (sApp2 opDiv (sVar 1) (sVar 2)) sNil))))))
noncomputable def m_fraction : List D → Option Val := fnSem 2 3 b_fraction
theorem L_fraction : ∀ ds, (m_fraction ds).isSome = true → ds.length = 2 := fun _ h => fnSem_len h
noncomputable def b_lesser : SS := (sSeq (sIf (sOr (sTest (sApp2 opIsN (sVar 0) (sCon .non))) (sAnd (sTest (sApp2 opNotN (sVar 1) (sCon .non))) (sTest (sApp (opFn m_is_less) (sCons (sVar 1) (sCons (sVar 0) sNil)))))) (sRet (sMove 1)) sSkip)
    (sRet (sMove 0)))
noncomputable def m_lesser : List D → Option Val := fnSem 2 2 b_lesser
theorem L_lesser : ∀ ds, (m_lesser ds).isSome = true → ds.length = 2 := fun _ h => fnSem_len h
noncomputable def w_u_law_sizes_1 : SS := (sSeq (sSet 5 (sApp (opFn m_u_law_low) (sCons (sApp2 opSub (sCallIO 0 m_u_law_take (sCons (sApp2 opAdd (sApp2 opMul (sCon (.int 2)) (sVar 2)) (sCon (.int 1))) sNil)) (sApp2 opDiv (sVar 2) (sCon (.int 2)))) (sCons (sApp2 opAdd (sCon (.int 1)) (sCallIO 0 m_u_law_take (sCons (sApp2 opIdx (sApp opLst (sCons (sCon (.int 1)) (sCons (sCon (.int 1)) (sCons (sCon (.int 2)) (sCons (sCon (.int 12)) sNil))))) (sCallIO 0 m_u_law_take (sCons (sCon (.int 4)) sNil))) sNil))) sNil))))
    (sIf (sTest (sApp2 opEq (sCallIO 0 m_u_law_take (sCons (sCon (.int 4)) sNil)) (sCon (.int 0)))) (sApnd 3 (sCon .non)) (sApnd 3 (sMove 5))))
noncomputable def lp_u_law_sizes_1 : SS := (sFor (iRange1 (sCons (sCallIO 0 m_u_law_take (sCons (sVar 1) sNil)) sNil)) (sGName 4) w_u_law_sizes_1)
noncomputable def b_u_law_sizes : SS := (sSeq (sSet 2 (sApp2 opIdx (sApp opLst (sCons (sCon (.int 4)) (sCons (sCon (.int 12)) (sCons (sCon (.int 60)) (sCons (sApp2 opPow (sCon (.int 10)) (sCon (.int 9))) sNil))))) (sCallIO 0 m_u_law_take (sCons (sCon (.int 4)) sNil))))
    (sSeq (sSet 3 (sApp opLst sNil))
    (sSeq lp_u_law_sizes_1
    (sRet (sApp2 opAdd (sVar 3) (sApp opLst (sCons (sApp (opFn m_u_law_low) (sCons (sCallIO 0 m_u_law_take (sCons (sApp2 opAdd (sVar 2) (sCon (.int 1))) sNil)) (sCons (sApp2 opAdd (sCon (.int 1)) (sCallIO 0 m_u_law_take (sCons (sCon (.int 3)) sNil))) sNil))) sNil)))))))
noncomputable def m_u_law_sizes : List D → Option (Val × D) := fnSemIO 2 6 b_u_law_sizes
theorem L_u_law_sizes : ∀ ds, (m_u_law_sizes ds).isSome = true → ds.length = 2 := fun _ h => fnSemIO_len h
noncomputable def b_plus : SS := (sRet (sApp (opFn m_fraction) (sCons (sApp2 opAdd (sApp2 opMul (sApp2 opIdx (sVar 0) (sCon (.int 0))) (sApp2 opIdx (sVar 1) (sCon (.int 1)))) (sApp2 opMul (sApp2 opIdx (sVar 1) (sCon (.int 0))) (sApp2 opIdx (sVar 0) (sCon (.int 1))))) (sCons (sApp2 opMul (sApp2 opIdx (sVar 0) (sCon (.int 1))) (sApp2 opIdx (sVar 1) (sCon (.int 1)))) sNil))))
noncomputable def m_plus : List D → Option Val := fnSem 2 2 b_plus
theorem L_plus : ∀ ds, (m_plus ds).isSome = true → ds.length = 2 := fun _ h => fnSem_len h
noncomputable def b_minus : SS := (sRet (sApp (opFn m_fraction) (sCons (sApp2 opSub (sApp2 opMul (sApp2 opIdx (sVar 0) (sCon (.int 0))) (sApp2 opIdx (sVar 1) (sCon (.int 1)))) (sApp2 opMul (sApp2 opIdx (sVar 1) (sCon (.int 0))) (sApp2 opIdx (sVar 0) (sCon (.int 1))))) (sCons (sApp2 opMul (sApp2 opIdx (sVar 0) (sCon (.int 1))) (sApp2 opIdx (sVar 1) (sCon (.int 1)))) sNil))))
noncomputable def m_minus : List D → Option Val := fnSem 2 2 b_minus
theorem L_minus : ∀ ds, (m_minus ds).isSome = true → ds.length = 2 := fun _ h => fnSem_len h
noncomputable def b_over : SS := (sRet (sApp (opFn m_fraction) (sCons (sApp2 opMul (sApp2 opIdx (sVar 0) (sCon (.int 0))) (sApp2 opIdx (sVar 1) (sCon (.int 1)))) (sCons (sApp2 opMul (sApp2 opIdx (sVar 0) (sCon (.int 1))) (sApp2 opIdx (sVar 1) (sCon (.int 0)))) sNil))))
noncomputable def m_over : List D → Option Val := fnSem 2 2 b_over
theorem L_over : ∀ ds, (m_over ds).isSome = true → ds.length = 2 := fun _ h => fnSem_len h
noncomputable def b_slope_between : SS := (sRet (sApp (opFn m_over) (sCons (sApp (opFn m_minus) (sCons (sApp2 opIdx (sVar 0) (sVar 2)) (sCons (sApp2 opIdx (sVar 0) (sVar 1)) sNil))) (sCons (sApp (opFn m_fraction) (sCons (sApp2 opSub (sVar 2) (sVar 1)) (sCons (sCon (.int 1)) sNil))) sNil))))
noncomputable def m_slope_between : List D → Option Val := fnSem 3 3 b_slope_between
theorem L_slope_between : ∀ ds, (m_slope_between ds).isSome = true → ds.length = 3 := fun _ h => fnSem_len h
noncomputable def w_least_at_1 : SS := (sIf (sAnd (sTest (sChain (fun i j => decide (i ≤ j)) (fun i j => decide (i < j)) (sCon (.int 0)) (sApp2 opSub (sVar 2) (sVar 4)) (sApp opLen (sCons (sVar 1) sNil)))) (sAnd (sTest (sApp2 opNotN (sApp2 opIdx (sVar 0) (sVar 4)) (sCon .non))) (sTest (sApp2 opNotN (sApp2 opIdx (sVar 1) (sApp2 opSub (sVar 2) (sVar 4))) (sCon .non))))) (sSet 3 (sApp (opFn m_lesser) (sCons (sVar 3) (sCons (sApp (opFn m_plus) (sCons (sApp2 opIdx (sVar 0) (sVar 4)) (sCons (sApp2 opIdx (sVar 1) (sApp2 opSub (sVar 2) (sVar 4))) sNil))) sNil)))) sSkip)
noncomputable def lp_least_at_1 : SS := (sFor (iRange1 (sCons (sApp opLen (sCons (sVar 0) sNil)) sNil)) (sGName 4) w_least_at_1)
noncomputable def b_least_at : SS := (sSeq (sSet 3 (sCon .non))
    (sSeq lp_least_at_1
    (sRet (sMove 3))))
noncomputable def m_least_at : List D → Option Val := fnSem 3 5 b_least_at
theorem L_least_at : ∀ ds, (m_least_at ds).isSome = true → ds.length = 3 := fun _ h => fnSem_len h
noncomputable def w_next_corner_1 : SS := (sIf (sTest (sApp2 opNotN (sApp2 opIdx (sVar 0) (sVar 4)) (sCon .non))) (sSeq (sSet 5 (sApp (opFn m_slope_between) (sCons (sVar 0) (sCons (sVar 1) (sCons (sVar 4) sNil)))))
    (sIf (sOr (sTest (sApp2 opIsN (sVar 3) (sCon .non))) (sNot (sTest (sApp (opFn m_is_less) (sCons (sVar 3) (sCons (sVar 5) sNil)))))) (sSeq (sSet 2 (sMove 4))
    (sSet 3 (sMove 5))) sSkip)) sSkip)
noncomputable def lp_next_corner_1 : SS := (sFor (iRange2 (sCons (sApp2 opAdd (sVar 1) (sCon (.int 1))) (sCons (sApp opLen (sCons (sVar 0) sNil)) sNil))) (sGName 4) w_next_corner_1)
noncomputable def b_next_corner : SS := (sSeq (sSet 2 (sCon .non))
    (sSeq (sSet 3 (sCon .non))
    (sSeq lp_next_corner_1
    (sRet (sApp opTup (sCons (sMove 2) (sCons (sMove 3) sNil)))))))
noncomputable def m_next_corner : List D → Option Val := fnSem 2 6 b_next_corner
theorem L_next_corner : ∀ ds, (m_next_corner ds).isSome = true → ds.length = 2 := fun _ h => fnSem_len h
noncomputable def lc_joined_1 : SE := (sLc [0, 1] [] [2] (iRange1 (sCons (sApp2 opSub (sApp2 opAdd (sApp opLen (sCons (sVar 0) sNil)) (sApp opLen (sCons (sVar 1) sNil))) (sCon (.int 1))) sNil)) (sGName 2) sYes (sApp (opFn m_least_at) (sCons (sVar 0) (sCons (sVar 1) (sCons (sVar 2) sNil)))))
noncomputable def b_joined : SS := (sRet lc_joined_1)
noncomputable def m_joined : List D → Option Val := fnSem 2 3 b_joined
theorem L_joined : ∀ ds, (m_joined ds).isSome = true → ds.length = 2 := fun _ h => fnSem_len h
noncomputable def w_sides_1 : SS := (sSeq (sAsg (sGTup (sGCons (sGName 3) (sGCons (sGName 4) sGNil))) (sApp (opFn m_next_corner) (sCons (sVar 0) (sCons (sVar 2) sNil))))
    (sSeq (sApnd 1 (sApp opTup (sCons (sMove 2) (sCons (sVar 3) (sCons (sMove 4) sNil)))))
    (sSet 2 (sMove 3))))
noncomputable def lp_sides_1 : SS := (sWhile (sTest (sApp2 opLt (sVar 2) (sApp2 opSub (sApp opLen (sCons (sVar 0) sNil)) (sCon (.int 1))))) w_sides_1)
noncomputable def b_sides : SS := (sSeq (sSet 1 (sApp opLst sNil))
    (sSeq (sSet 2 (sApp (opFn m_first_place) (sCons (sVar 0) sNil)))
    (sSeq lp_sides_1
    (sRet (sMove 1)))))
noncomputable def m_sides : List D → Option Val := fnSem 1 5 b_sides
theorem L_sides : ∀ ds, (m_sides ds).isSome = true → ds.length = 1 := fun _ h => fnSem_len h
noncomputable def w_law_1 : SS := (sSeq (sSet 2 (sApp (opFn m_u_law_bag) (sCons (sVar 0) (sCons (sVar 1) sNil))))
    (sSeq (sSet 3 (sCallIO 2 m_u_law_sizes (sCons (sCon (.int 13)) sNil)))
    (sSeq (sSet 4 (sCallT m_u_law_sizes (sApp (opFn m_u_law_bag) (sCons (sVar 0) (sCons (sApp2 opAdd (sVar 1) (sCon (.int 1))) sNil))) (sCons (sCon (.int 13)) sNil)))
    (sSeq (sSet 5 (sApp (opFn m_joined) (sCons (sVar 3) (sCons (sVar 4) sNil))))
    (sSeq (sSet 6 (sApp (opFn m_u_law_merged) (sCons (sApp (opFn m_u_law_lengths) (sCons (sApp (opFn m_sides) (sCons (sVar 3) sNil)) sNil)) (sCons (sApp (opFn m_u_law_lengths) (sCons (sApp (opFn m_sides) (sCons (sVar 4) sNil)) sNil)) sNil))))
    (sSeq (sSet 7 (sApp (opFn m_u_law_lengths) (sCons (sApp (opFn m_sides) (sCons (sVar 5) sNil)) sNil)))
    (sSeq (sIf (sOr (sTest (sApp2 opNe (sApp opSortD (sCons (sVar 7) sNil)) (sApp opSortD (sCons (sVar 6) sNil)))) (sTest (sApp2 opNe (sApp (opFn m_u_law_begin) (sCons (sVar 5) sNil)) (sApp2 opAdd (sApp (opFn m_u_law_begin) (sCons (sVar 3) sNil)) (sApp (opFn m_u_law_begin) (sCons (sVar 4) sNil)))))) (sRet (sCon (.bl false))) sSkip)
    (sIf (sTest (sApp2 opNe (sApp (opFn m_joined) (sCons (sVar 5) (sCons (sVar 3) sNil))) (sApp (opFn m_joined) (sCons (sVar 3) (sCons (sApp (opFn m_joined) (sCons (sVar 4) (sCons (sVar 3) sNil))) sNil))))) (sRet (sCon (.bl false))) sSkip))))))))
noncomputable def lp_law_1 : SS := (sFor (iRange3 (sCons (sCon (.int 0)) (sCons (sApp opMax2 (sCons (sCon (.int 2)) (sCons (sApp opMin2 (sCons (sCon (.int 6)) (sCons (sApp opLen (sCons (sVar 0) sNil)) sNil))) sNil))) (sCons (sCon (.int 2)) sNil)))) (sGName 1) w_law_1)
noncomputable def b_law : SS := (sSeq lp_law_1
    (sRet (sCon (.bl true))))
noncomputable def m_law : List D → Option Val := fnSem 1 8 b_law
abbrev N_common : List Str := ["one", "other"]
theorem sc_common : FnScope N_common ["one", "other"] (defScope (top 1)) := ⟨rfl, rfl, rfl, by decide +kernel, rfl, by decide +kernel, by decide +kernel⟩
abbrev N_fraction : List Str := ["top", "bottom", "part"]
theorem sc_fraction : FnScope N_fraction ["top", "bottom"] (defScope (top 2)) := ⟨rfl, rfl, rfl, by decide +kernel, rfl, by decide +kernel, by decide +kernel⟩
abbrev N_plus : List Str := ["u", "v"]
theorem sc_plus : FnScope N_plus ["u", "v"] (defScope (top 3)) := ⟨rfl, rfl, rfl, by decide +kernel, rfl, by decide +kernel, by decide +kernel⟩
abbrev N_minus : List Str := ["u", "v"]
theorem sc_minus : FnScope N_minus ["u", "v"] (defScope (top 4)) := ⟨rfl, rfl, rfl, by decide +kernel, rfl, by decide +kernel, by decide +kernel⟩
abbrev N_over : List Str := ["u", "v"]
theorem sc_over : FnScope N_over ["u", "v"] (defScope (top 5)) := ⟨rfl, rfl, rfl, by decide +kernel, rfl, by decide +kernel, by decide +kernel⟩
abbrev N_is_less : List Str := ["u", "v"]
theorem sc_is_less : FnScope N_is_less ["u", "v"] (defScope (top 6)) := ⟨rfl, rfl, rfl, by decide +kernel, rfl, by decide +kernel, by decide +kernel⟩
abbrev N_slope_between : List Str := ["sizes", "s", "t"]
theorem sc_slope_between : FnScope N_slope_between ["sizes", "s", "t"] (defScope (top 8)) := ⟨rfl, rfl, rfl, by decide +kernel, rfl, by decide +kernel, by decide +kernel⟩
abbrev N_next_corner : List Str := ["sizes", "s", "found", "slope", "t", "here"]
theorem sc_next_corner : FnScope N_next_corner ["sizes", "s"] (defScope (top 9)) := ⟨rfl, rfl, rfl, by decide +kernel, rfl, by decide +kernel, by decide +kernel⟩
abbrev N_first_place : List Str := ["sizes", "at", "size"]
theorem sc_first_place : FnScope N_first_place ["sizes"] (defScope (top 10)) := ⟨rfl, rfl, rfl, by decide +kernel, rfl, by decide +kernel, by decide +kernel⟩
abbrev N_sides : List Str := ["sizes", "found", "s", "t", "slope"]
theorem sc_sides : FnScope N_sides ["sizes"] (defScope (top 11)) := ⟨rfl, rfl, rfl, by decide +kernel, rfl, by decide +kernel, by decide +kernel⟩
abbrev N_lesser : List Str := ["one", "other"]
theorem sc_lesser : FnScope N_lesser ["one", "other"] (defScope (top 12)) := ⟨rfl, rfl, rfl, by decide +kernel, rfl, by decide +kernel, by decide +kernel⟩
abbrev N_least_at : List Str := ["one", "other", "k", "found", "i"]
theorem sc_least_at : FnScope N_least_at ["one", "other", "k"] (defScope (top 13)) := ⟨rfl, rfl, rfl, by decide +kernel, rfl, by decide +kernel, by decide +kernel⟩
abbrev N_joined : List Str := ["one", "other", "k"]
theorem sc_joined : FnScope N_joined ["one", "other"] (defScope (top 14)) := ⟨rfl, rfl, rfl, by decide +kernel, rfl, by decide +kernel, by decide +kernel⟩
abbrev N_u_law_bag : List Str := ["_law_script", "_law_at", "_law_cell", "_law_great"]
theorem sc_u_law_bag : FnScope N_u_law_bag ["_law_script", "_law_at"] (defScope (top 16)) := ⟨rfl, rfl, rfl, by decide +kernel, rfl, by decide +kernel, by decide +kernel⟩
abbrev N_u_law_take : List Str := ["_law_bag_here", "_law_many", "_law_digit"]
theorem sc_u_law_take : FnScope N_u_law_take ["_law_bag_here", "_law_many"] (defScope (top 17)) := ⟨rfl, rfl, rfl, by decide +kernel, rfl, by decide +kernel, by decide +kernel⟩
abbrev N_u_law_low : List Str := ["_law_top", "_law_bottom", "_law_one", "_law_other", "_law_rest"]
theorem sc_u_law_low : FnScope N_u_law_low ["_law_top", "_law_bottom"] (defScope (top 18)) := ⟨rfl, rfl, rfl, by decide +kernel, rfl, by decide +kernel, by decide +kernel⟩
abbrev N_u_law_sizes : List Str := ["_law_bag_here", "_law_most", "_law_far", "_law_found", "_law_k", "_law_size"]
theorem sc_u_law_sizes : FnScope N_u_law_sizes ["_law_bag_here", "_law_most"] (defScope (top 19)) := ⟨rfl, rfl, rfl, by decide +kernel, rfl, by decide +kernel, by decide +kernel⟩
abbrev N_u_law_lengths : List Str := ["_law_found", "_law_made", "_law_s", "_law_t", "_law_slope"]
theorem sc_u_law_lengths : FnScope N_u_law_lengths ["_law_found"] (defScope (top 20)) := ⟨rfl, rfl, rfl, by decide +kernel, rfl, by decide +kernel, by decide +kernel⟩
abbrev N_u_law_merged : List Str := ["_law_one", "_law_other", "_law_found", "_law_pair", "_law_slope", "_law_size", "_law_some"]
theorem sc_u_law_merged : FnScope N_u_law_merged ["_law_one", "_law_other"] (defScope (top 21)) := ⟨rfl, rfl, rfl, by decide +kernel, rfl, by decide +kernel, by decide +kernel⟩
abbrev N_u_law_begin : List Str := ["_law_sizes_here", "_law_k"]
theorem sc_u_law_begin : FnScope N_u_law_begin ["_law_sizes_here"] (defScope (top 22)) := ⟨rfl, rfl, rfl, by decide +kernel, rfl, by decide +kernel, by decide +kernel⟩
abbrev N_law : List Str := ["_law_script", "_law_at", "_law_bag_here", "_law_one", "_law_other", "_law_both", "_law_due", "_law_found"]
theorem sc_law : FnScope N_law ["_law_script"] (defScope (top 23)) := ⟨rfl, rfl, rfl, by decide +kernel, rfl, by decide +kernel, by decide +kernel⟩
set_option genInjectivity false in
set_option genSizeOf false in
structure FA where
  (f1 f2 f3 f4 f5 f6 f8 f9 f10 f11 f12 f13 f14 f16 f17 f18 f19 f20 f21 f22 f23 : Addr)
set_option genInjectivity false in
set_option genSizeOf false in
structure FD where
  (d1 d2 d3 d4 d5 d6 d8 d9 d10 d11 d12 d13 d14 d16 d17 d18 d19 d20 d21 d22 d23 : FuncData)
structure Tx (K : PySem.W.Frag) (mg : Str → Option Value) (va : FA) (vd : FD) : Prop where
  F_common : Fun K "common" "common" (top 1) va.f1 vd.d1
  M_common : mg "common" = some (.ref va.f1)
  B_common : Binds K vd.d1 ["one", "other"] []
  F_fraction : Fun K "fraction" "fraction" (top 2) va.f2 vd.d2
  M_fraction : mg "fraction" = some (.ref va.f2)
  B_fraction : Binds K vd.d2 ["top", "bottom"] []
  F_plus : Fun K "plus" "plus" (top 3) va.f3 vd.d3
  M_plus : mg "plus" = some (.ref va.f3)
  B_plus : Binds K vd.d3 ["u", "v"] []
  F_minus : Fun K "minus" "minus" (top 4) va.f4 vd.d4
  M_minus : mg "minus" = some (.ref va.f4)
  B_minus : Binds K vd.d4 ["u", "v"] []
  F_over : Fun K "over" "over" (top 5) va.f5 vd.d5
  M_over : mg "over" = some (.ref va.f5)
  B_over : Binds K vd.d5 ["u", "v"] []
  F_is_less : Fun K "is_less" "is_less" (top 6) va.f6 vd.d6
  M_is_less : mg "is_less" = some (.ref va.f6)
  B_is_less : Binds K vd.d6 ["u", "v"] []
  F_slope_between : Fun K "slope_between" "slope_between" (top 8) va.f8 vd.d8
  M_slope_between : mg "slope_between" = some (.ref va.f8)
  B_slope_between : Binds K vd.d8 ["sizes", "s", "t"] []
  F_next_corner : Fun K "next_corner" "next_corner" (top 9) va.f9 vd.d9
  M_next_corner : mg "next_corner" = some (.ref va.f9)
  B_next_corner : Binds K vd.d9 ["sizes", "s"] []
  F_first_place : Fun K "first_place" "first_place" (top 10) va.f10 vd.d10
  M_first_place : mg "first_place" = some (.ref va.f10)
  B_first_place : Binds K vd.d10 ["sizes"] []
  F_sides : Fun K "sides" "sides" (top 11) va.f11 vd.d11
  M_sides : mg "sides" = some (.ref va.f11)
  B_sides : Binds K vd.d11 ["sizes"] []
  F_lesser : Fun K "lesser" "lesser" (top 12) va.f12 vd.d12
  M_lesser : mg "lesser" = some (.ref va.f12)
  B_lesser : Binds K vd.d12 ["one", "other"] []
  F_least_at : Fun K "least_at" "least_at" (top 13) va.f13 vd.d13
  M_least_at : mg "least_at" = some (.ref va.f13)
  B_least_at : Binds K vd.d13 ["one", "other", "k"] []
  F_joined : Fun K "joined" "joined" (top 14) va.f14 vd.d14
  M_joined : mg "joined" = some (.ref va.f14)
  B_joined : Binds K vd.d14 ["one", "other"] []
  F_u_law_bag : Fun K "_law_bag" "_law_bag" (top 16) va.f16 vd.d16
  M_u_law_bag : mg "_law_bag" = some (.ref va.f16)
  B_u_law_bag : Binds K vd.d16 ["_law_script", "_law_at"] []
  F_u_law_take : Fun K "_law_take" "_law_take" (top 17) va.f17 vd.d17
  M_u_law_take : mg "_law_take" = some (.ref va.f17)
  B_u_law_take : Binds K vd.d17 ["_law_bag_here", "_law_many"] []
  F_u_law_low : Fun K "_law_low" "_law_low" (top 18) va.f18 vd.d18
  M_u_law_low : mg "_law_low" = some (.ref va.f18)
  B_u_law_low : Binds K vd.d18 ["_law_top", "_law_bottom"] []
  F_u_law_sizes : Fun K "_law_sizes" "_law_sizes" (top 19) va.f19 vd.d19
  M_u_law_sizes : mg "_law_sizes" = some (.ref va.f19)
  B_u_law_sizes : Binds K vd.d19 ["_law_bag_here", "_law_most"] []
  F_u_law_lengths : Fun K "_law_lengths" "_law_lengths" (top 20) va.f20 vd.d20
  M_u_law_lengths : mg "_law_lengths" = some (.ref va.f20)
  B_u_law_lengths : Binds K vd.d20 ["_law_found"] []
  F_u_law_merged : Fun K "_law_merged" "_law_merged" (top 21) va.f21 vd.d21
  M_u_law_merged : mg "_law_merged" = some (.ref va.f21)
  B_u_law_merged : Binds K vd.d21 ["_law_one", "_law_other"] []
  F_u_law_begin : Fun K "_law_begin" "_law_begin" (top 22) va.f22 vd.d22
  M_u_law_begin : mg "_law_begin" = some (.ref va.f22)
  B_u_law_begin : Binds K vd.d22 ["_law_sizes_here"] []
  F_law : Fun K "law" "law" (top 23) va.f23 vd.d23
  M_law : mg "law" = some (.ref va.f23)
  B_law : Binds K vd.d23 ["_law_script"] []
  Z_abs : mg "abs" = none
  Z_enumerate : mg "enumerate" = none
  Z_len : mg "len" = none
  Z_list : mg "list" = none
  Z_max : mg "max" = none
  Z_min : mg "min" = none
  Z_range : mg "range" = none
  Z_sorted : mg "sorted" = none
section
variable {P : Program} {w : World} {K : PySem.W.Frag} {mg : Str → Option Value} {base : Heap} {c : Cl} {va : FA} {vd : FD}
variable (T : Tx K mg va vd)
include T
theorem ok_common : FnOk P w K mg base CX0 1 va.f1 vd.d1 ["one", "other"] (spPure (W0 K c) 2 m_common) := by
  refine ev_fn (c := c) (b := b_common) T.F_common sc_common rfl rfl rfl fun cdv A outer s H E hr => by
    refine ⟨_, _, (eb_cons (es_while PassesOwn.never (et_ne hr.units (ev_var 1) ev_int) (eb_one (es_par 0 1 rfl sc_common.nd (ea_cons (ev_var 1) (ea_cons (ev_mod (ev_var 0) (ev_var 1)) ea_nil)))))
    (eb_one (es_ret (ev_abs (by rfl) T.Z_abs (ea_cons (ev_var 0) ea_nil))))), ?_⟩
    rfl
theorem ok_is_less : FnOk P w K mg base CX0 1 va.f6 vd.d6 ["u", "v"] (spPure (W0 K c) 2 m_is_less) := by
  refine ev_fn (c := c) (b := b_is_less) T.F_is_less sc_is_less rfl rfl rfl fun cdv A outer s H E hr => by
    refine ⟨_, _, (eb_one (es_ret (ev_lt (ev_mul (ev_idx (ev_var 0) ev_int) (ev_idx (ev_var 1) ev_int)) (ev_mul (ev_idx (ev_var 1) ev_int) (ev_idx (ev_var 0) ev_int))))), ?_⟩
    rfl
theorem ok_first_place : FnOk P w K mg base CX0 1 va.f10 vd.d10 ["sizes"] (spPure (W0 K c) 1 m_first_place) := by
  refine ev_fn (c := c) (b := b_first_place) T.F_first_place sc_first_place rfl rfl rfl fun cdv A outer s H E hr => by
    refine ⟨_, _, (eb_one (es_ret (ev_idx (ev_lc [] [] rfl sc_first_place.nd (ei_enum (by rfl) T.Z_enumerate (ea_cons (ev_var 0) ea_nil)) (blkOk_by (N := N_first_place) (sc := defScope (top 10)) (own := [("at", 1), ("size", 2)]) (by decide +kernel)) (fun _ _ _ _ _ => (eg_tup rfl (egs_cons (eg_name (ws := ([("at", 1), ("size", 2)] : List (Str × Nat)).map (·.2)) 1 sc_first_place.nd) (egs_cons (eg_name (ws := ([("at", 1), ("size", 2)] : List (Str × Nat)).map (·.2)) 2 sc_first_place.nd) egs_nil)))) (fun _ _ _ _ _ => (ef_one (et_notN (ev_var 2) ev_non))) (fun _ _ _ _ _ => (ev_var 1))) ev_int))), ?_⟩
    rfl
theorem ok_u_law_bag : FnOk P w K mg base CX0 1 va.f16 vd.d16 ["_law_script", "_law_at"] (spPure (W0 K c) 2 m_u_law_bag) := by
  refine ev_fn (c := c) (b := b_u_law_bag) T.F_u_law_bag sc_u_law_bag rfl rfl rfl fun cdv A outer s H E hr => by
    refine ⟨_, _, (eb_cons (es_set 2 sc_u_law_bag.nd ev_int)
    (eb_cons (es_if (et_lt (ev_var 1) (ev_len (by rfl) T.Z_len (ea_cons (ev_var 0) ea_nil))) (eb_one (es_set 2 sc_u_law_bag.nd (ev_idx (ev_var 0) (ev_var 1)))) eb_nil)
    (eb_cons (es_set 3 sc_u_law_bag.nd ev_int)
    (eb_cons (es_if (et_ge (ev_abs (by rfl) T.Z_abs (ea_cons (ev_var 2) ea_nil)) (ev_pow ev_int ev_int)) (eb_one (es_set 3 sc_u_law_bag.nd (ev_abs (by rfl) T.Z_abs (ea_cons (ev_var 2) ea_nil)))) eb_nil)
    (eb_one (es_ret (ev_lst (ea_cons (ev_move 3) (ea_cons (ev_add (ev_mod (ev_add (ev_add (ev_var 2) (ev_mul ev_int (ev_var 1))) ev_int) ev_int) ev_int) ea_nil))))))))), ?_⟩
    rfl
theorem ok_u_law_take : FnOk P w K mg base CX0 1 va.f17 vd.d17 ["_law_bag_here", "_law_many"] (spIO (W0 K c) 2 m_u_law_take) := by
  refine ev_fnIO (c := c) (b := b_u_law_take) T.F_u_law_take sc_u_law_take rfl rfl rfl fun cdv A outer s H E hr => by
    refine ⟨_, _, (eb_cons (es_if (et_gt (ev_idx (ev_var 0) ev_int) ev_int) (eb_cons (es_set 2 sc_u_law_take.nd (ev_mod (ev_idx (ev_var 0) ev_int) (ev_var 1)))
    (eb_cons (es_asg (ev_div (ev_idx (ev_var 0) ev_int) (ev_var 1)) (eg_sub (ws := []) 0 ev_int))
    (eb_one (es_ret (ev_move 2))))) eb_nil)
    (eb_cons (es_asg (ev_mod (ev_add (ev_mul (ev_idx (ev_var 0) ev_int) ev_int) ev_int) ev_int) (eg_sub (ws := []) 0 ev_int))
    (eb_one (es_ret (ev_mod (ev_mod (ev_mul (ev_div (ev_idx (ev_var 0) ev_int) ev_int) ev_int) ev_int) (ev_var 1)))))), ?_⟩
    rfl
theorem ok_u_law_low : FnOk P w K mg base CX0 1 va.f18 vd.d18 ["_law_top", "_law_bottom"] (spPure (W0 K c) 2 m_u_law_low) := by
  refine ev_fn (c := c) (b := b_u_law_low) T.F_u_law_low sc_u_law_low rfl rfl rfl fun cdv A outer s H E hr => by
    refine ⟨_, _, (eb_cons (es_par 2 3 rfl sc_u_law_low.nd (ea_cons (ev_abs (by rfl) T.Z_abs (ea_cons (ev_var 0) ea_nil)) (ea_cons (ev_abs (by rfl) T.Z_abs (ea_cons (ev_var 1) ea_nil)) ea_nil)))
    (eb_cons (es_while PassesOwn.never (et_gt (ev_var 3) ev_int) (eb_cons (es_set 4 sc_u_law_low.nd (ev_mod (ev_var 2) (ev_var 3)))
    (eb_cons (es_set 2 sc_u_law_low.nd (ev_move 3))
    (eb_one (es_set 3 sc_u_law_low.nd (ev_move 4))))))
    (eb_cons (es_if (et_lt (ev_var 1) ev_int) (eb_one (es_set 2 sc_u_law_low.nd (ev_neg (ev_var 2)))) eb_nil)
    (eb_one (es_ret (ev_tup (ea_cons (ev_div (ev_var 0) (ev_var 2)) (ea_cons (ev_div (ev_var 1) (ev_var 2)) ea_nil)))))))), ?_⟩
    rfl
theorem ok_u_law_lengths : FnOk P w K mg base CX0 1 va.f20 vd.d20 ["_law_found"] (spPure (W0 K c) 1 m_u_law_lengths) := by
  refine ev_fn (c := c) (b := b_u_law_lengths) T.F_u_law_lengths sc_u_law_lengths rfl rfl rfl fun cdv A outer s H E hr => by
    refine ⟨_, _, (eb_cons (es_set 1 sc_u_law_lengths.nd (ev_lst ea_nil))
    (eb_cons (es_for PassesOwn.never rfl (ei_seq (ev_var 0)) (eg_tup rfl (egs_cons (eg_name (ws := [2, 3, 4]) 2 sc_u_law_lengths.nd) (egs_cons (eg_name (ws := [2, 3, 4]) 3 sc_u_law_lengths.nd) (egs_cons (eg_name (ws := [2, 3, 4]) 4 sc_u_law_lengths.nd) egs_nil)))) (eb_one (es_append 1 (ev_lst (ea_cons (ev_move 4) (ea_cons (ev_sub (ev_var 3) (ev_var 2)) ea_nil))))))
    (eb_one (es_ret (ev_move 1))))), ?_⟩
    rfl
theorem ok_u_law_merged : FnOk P w K mg base CX0 1 va.f21 vd.d21 ["_law_one", "_law_other"] (spPure (W0 K c) 2 m_u_law_merged) := by
  refine ev_fn (c := c) (b := b_u_law_merged) T.F_u_law_merged sc_u_law_merged rfl rfl rfl fun cdv A outer s H E hr => by
    refine ⟨_, _, (eb_cons (es_setLc 2 [] [] rfl sc_u_law_merged.nd (sw_true rfl rfl rfl (by decide +kernel)) (ei_seq (ev_var 0)) (blkOk_by (N := N_u_law_merged) (sc := defScope (top 21)) (own := [("_law_pair", 3)]) (by decide +kernel)) (fun _ _ _ _ _ => (eg_name (ws := ([("_law_pair", 3)] : List (Str × Nat)).map (·.2)) 3 sc_u_law_merged.nd)) (fun _ _ _ _ _ => ef_nil) (fun _ _ _ _ _ => (ev_list1 (by rfl) T.Z_list (ea_cons (ev_var 3) ea_nil))))
    (eb_cons (es_for PassesOwn.never rfl (ei_seq (ev_var 1)) (eg_lst rfl (egs_cons (eg_name (ws := [4, 5]) 4 sc_u_law_merged.nd) (egs_cons (eg_name (ws := [4, 5]) 5 sc_u_law_merged.nd) egs_nil))) (eb_pick (j := 2) (v := 3) (i := 6) (s := 5) [2, 4] rfl sc_u_law_merged.nd (sw_true rfl rfl rfl (by decide +kernel)) (ev_var 2) (blkOk_by (N := N_u_law_merged) (sc := defScope (top 21)) (own := [("_law_pair", 3)]) (by decide +kernel)) (fun _ _ _ _ _ => (eg_name (ws := ([("_law_pair", 3)] : List (Str × Nat)).map (·.2)) 3 sc_u_law_merged.nd)) (fun _ _ _ _ _ => (ef_one (et_eq hr.units (ev_idx (ev_var 3) ev_int) (ev_var 4)))) (fun _ _ _ _ _ => (ev_var 3)) (et_eq hr.units (ev_var 6) (ev_lst ea_nil)) (eb_one (es_append 2 (ev_lst (ea_cons (ev_move 4) (ea_cons (ev_move 5) ea_nil))))) (es_augPAdd (ep_ix (ep_name 6) ev_int) ev_int (ev_var 5))))
    (eb_one (es_ret (ev_move 2))))), ?_⟩
    rfl
theorem ok_u_law_begin : FnOk P w K mg base CX0 1 va.f22 vd.d22 ["_law_sizes_here"] (spPure (W0 K c) 1 m_u_law_begin) := by
  refine ev_fn (c := c) (b := b_u_law_begin) T.F_u_law_begin sc_u_law_begin rfl rfl rfl fun cdv A outer s H E hr => by
    refine ⟨_, _, (eb_one (es_ret (ev_idx (ev_lc [0] [] rfl sc_u_law_begin.nd (ei_rng1 (by rfl) T.Z_range (ea_cons (ev_len (by rfl) T.Z_len (ea_cons (ev_var 0) ea_nil)) ea_nil)) (blkOk_by (N := N_u_law_begin) (sc := defScope (top 22)) (own := [("_law_k", 1)]) (by decide +kernel)) (fun _ _ _ _ _ => (eg_name (ws := ([("_law_k", 1)] : List (Str × Nat)).map (·.2)) 1 sc_u_law_begin.nd)) (fun _ _ _ _ _ => (ef_one (et_notN (ev_idx (ev_var 0) (ev_var 1)) ev_non))) (fun _ _ _ _ _ => (ev_var 1))) ev_int))), ?_⟩
    rfl
theorem ok_fraction : FnOk P w K mg base CX0 2 va.f2 vd.d2 ["top", "bottom"] (spPure (W0 K c) 2 m_fraction) := by
  have G_common := ok_common (P := P) (w := w) (base := base) (c := c) T
  refine ev_fn (c := c) (b := b_fraction) T.F_fraction sc_fraction rfl rfl rfl fun cdv A outer s H E hr => by
    refine ⟨_, _, (eb_cons (es_set 2 sc_fraction.nd (ev_call G_common L_common (hr.mono (by decide)) (by rfl) T.M_common T.F_common.kp T.B_common (ea_cons (ev_var 0) (ea_cons (ev_var 1) ea_nil))))
    (eb_cons (es_if (et_lt (ev_var 1) ev_int) (eb_one (es_set 2 sc_fraction.nd (ev_sub ev_int (ev_var 2)))) eb_nil)
    (eb_one (es_ret (ev_tup (ea_cons (ev_div (ev_var 0) (ev_var 2)) (ea_cons (ev_div (ev_var 1) (ev_var 2)) ea_nil))))))), ?_⟩
    rfl
theorem ok_lesser : FnOk P w K mg base CX0 2 va.f12 vd.d12 ["one", "other"] (spPure (W0 K c) 2 m_lesser) := by
  have G_is_less := ok_is_less (P := P) (w := w) (base := base) (c := c) T
  refine ev_fn (c := c) (b := b_lesser) T.F_lesser sc_lesser rfl rfl rfl fun cdv A outer s H E hr => by
    refine ⟨_, _, (eb_cons (es_if (et_w (ew_or (et_isN (ev_var 0) ev_non) (ew_or1 (et_w (ew_and (et_notN (ev_var 1) ev_non) (ew_and1 (et_val (ev_call G_is_less L_is_less (hr.mono (by decide)) (by rfl) T.M_is_less T.F_is_less.kp T.B_is_less (ea_cons (ev_var 1) (ea_cons (ev_var 0) ea_nil)))))))))) (eb_one (es_ret (ev_move 1))) eb_nil)
    (eb_one (es_ret (ev_move 0)))), ?_⟩
    rfl
theorem ok_u_law_sizes : FnOk P w K mg base CX0 2 va.f19 vd.d19 ["_law_bag_here", "_law_most"] (spIO (W0 K c) 2 m_u_law_sizes) := by
  have G_u_law_low := ok_u_law_low (P := P) (w := w) (base := base) (c := c) T
  have G_u_law_take := ok_u_law_take (P := P) (w := w) (base := base) (c := c) T
  refine ev_fnIO (c := c) (b := b_u_law_sizes) T.F_u_law_sizes sc_u_law_sizes rfl rfl rfl fun cdv A outer s H E hr => by
    refine ⟨_, _, (eb_cons (es_set 2 sc_u_law_sizes.nd (ev_idx (ev_lst (ea_cons ev_int (ea_cons ev_int (ea_cons ev_int (ea_cons (ev_pow ev_int ev_int) ea_nil))))) (ev_callIO 0 G_u_law_take L_u_law_take (hr.mono (by decide)) (by rfl) T.M_u_law_take T.F_u_law_take.kp T.B_u_law_take (ea_cons ev_int ea_nil))))
    (eb_cons (es_set 3 sc_u_law_sizes.nd (ev_lst ea_nil))
    (eb_cons (es_for PassesOwn.never rfl (ei_rng1 (by rfl) T.Z_range (ea_cons (ev_callIO 0 G_u_law_take L_u_law_take (hr.mono (by decide)) (by rfl) T.M_u_law_take T.F_u_law_take.kp T.B_u_law_take (ea_cons (ev_var 1) ea_nil)) ea_nil)) (eg_name (ws := [4]) 4 sc_u_law_sizes.nd) (eb_cons (es_set 5 sc_u_law_sizes.nd (ev_call G_u_law_low L_u_law_low (hr.mono (by decide)) (by rfl) T.M_u_law_low T.F_u_law_low.kp T.B_u_law_low (ea_cons (ev_sub (ev_callIO 0 G_u_law_take L_u_law_take (hr.mono (by decide)) (by rfl) T.M_u_law_take T.F_u_law_take.kp T.B_u_law_take (ea_cons (ev_add (ev_mul ev_int (ev_var 2)) ev_int) ea_nil)) (ev_div (ev_var 2) ev_int)) (ea_cons (ev_add ev_int (ev_callIO 0 G_u_law_take L_u_law_take (hr.mono (by decide)) (by rfl) T.M_u_law_take T.F_u_law_take.kp T.B_u_law_take (ea_cons (ev_idx (ev_lst (ea_cons ev_int (ea_cons ev_int (ea_cons ev_int (ea_cons ev_int ea_nil))))) (ev_callIO 0 G_u_law_take L_u_law_take (hr.mono (by decide)) (by rfl) T.M_u_law_take T.F_u_law_take.kp T.B_u_law_take (ea_cons ev_int ea_nil))) ea_nil))) ea_nil))))
    (eb_one (es_if (et_eq hr.units (ev_callIO 0 G_u_law_take L_u_law_take (hr.mono (by decide)) (by rfl) T.M_u_law_take T.F_u_law_take.kp T.B_u_law_take (ea_cons ev_int ea_nil)) ev_int) (eb_one (es_append 3 ev_non)) (eb_one (es_append 3 (ev_move 5)))))))
    (eb_one (es_ret (ev_add (ev_var 3) (ev_lst (ea_cons (ev_call G_u_law_low L_u_law_low (hr.mono (by decide)) (by rfl) T.M_u_law_low T.F_u_law_low.kp T.B_u_law_low (ea_cons (ev_callIO 0 G_u_law_take L_u_law_take (hr.mono (by decide)) (by rfl) T.M_u_law_take T.F_u_law_take.kp T.B_u_law_take (ea_cons (ev_add (ev_var 2) ev_int) ea_nil)) (ea_cons (ev_add ev_int (ev_callIO 0 G_u_law_take L_u_law_take (hr.mono (by decide)) (by rfl) T.M_u_law_take T.F_u_law_take.kp T.B_u_law_take (ea_cons ev_int ea_nil))) ea_nil))) ea_nil)))))))), ?_⟩
    rfl
theorem ok_plus : FnOk P w K mg base CX0 3 va.f3 vd.d3 ["u", "v"] (spPure (W0 K c) 2 m_plus) := by
  have G_fraction := ok_fraction (P := P) (w := w) (base := base) (c := c) T
  refine ev_fn (c := c) (b := b_plus) T.F_plus sc_plus rfl rfl rfl fun cdv A outer s H E hr => by
    refine ⟨_, _, (eb_one (es_ret (ev_call G_fraction L_fraction (hr.mono (by decide)) (by rfl) T.M_fraction T.F_fraction.kp T.B_fraction (ea_cons (ev_add (ev_mul (ev_idx (ev_var 0) ev_int) (ev_idx (ev_var 1) ev_int)) (ev_mul (ev_idx (ev_var 1) ev_int) (ev_idx (ev_var 0) ev_int))) (ea_cons (ev_mul (ev_idx (ev_var 0) ev_int) (ev_idx (ev_var 1) ev_int)) ea_nil))))), ?_⟩
    rfl
theorem ok_minus : FnOk P w K mg base CX0 3 va.f4 vd.d4 ["u", "v"] (spPure (W0 K c) 2 m_minus) := by
  have G_fraction := ok_fraction (P := P) (w := w) (base := base) (c := c) T
  refine ev_fn (c := c) (b := b_minus) T.F_minus sc_minus rfl rfl rfl fun cdv A outer s H E hr => by
    refine ⟨_, _, (eb_one (es_ret (ev_call G_fraction L_fraction (hr.mono (by decide)) (by rfl) T.M_fraction T.F_fraction.kp T.B_fraction (ea_cons (ev_sub (ev_mul (ev_idx (ev_var 0) ev_int) (ev_idx (ev_var 1) ev_int)) (ev_mul (ev_idx (ev_var 1) ev_int) (ev_idx (ev_var 0) ev_int))) (ea_cons (ev_mul (ev_idx (ev_var 0) ev_int) (ev_idx (ev_var 1) ev_int)) ea_nil))))), ?_⟩
    rfl
theorem ok_over : FnOk P w K mg base CX0 3 va.f5 vd.d5 ["u", "v"] (spPure (W0 K c) 2 m_over) := by
  have G_fraction := ok_fraction (P := P) (w := w) (base := base) (c := c) T
  refine ev_fn (c := c) (b := b_over) T.F_over sc_over rfl rfl rfl fun cdv A outer s H E hr => by
    refine ⟨_, _, (eb_one (es_ret (ev_call G_fraction L_fraction (hr.mono (by decide)) (by rfl) T.M_fraction T.F_fraction.kp T.B_fraction (ea_cons (ev_mul (ev_idx (ev_var 0) ev_int) (ev_idx (ev_var 1) ev_int)) (ea_cons (ev_mul (ev_idx (ev_var 0) ev_int) (ev_idx (ev_var 1) ev_int)) ea_nil))))), ?_⟩
    rfl
theorem ok_slope_between : FnOk P w K mg base CX0 4 va.f8 vd.d8 ["sizes", "s", "t"] (spPure (W0 K c) 3 m_slope_between) := by
  have G_fraction := ok_fraction (P := P) (w := w) (base := base) (c := c) T
  have G_minus := ok_minus (P := P) (w := w) (base := base) (c := c) T
  have G_over := ok_over (P := P) (w := w) (base := base) (c := c) T
  refine ev_fn (c := c) (b := b_slope_between) T.F_slope_between sc_slope_between rfl rfl rfl fun cdv A outer s H E hr => by
    refine ⟨_, _, (eb_one (es_ret (ev_call G_over L_over (hr.mono (by decide)) (by rfl) T.M_over T.F_over.kp T.B_over (ea_cons (ev_call G_minus L_minus (hr.mono (by decide)) (by rfl) T.M_minus T.F_minus.kp T.B_minus (ea_cons (ev_idx (ev_var 0) (ev_var 2)) (ea_cons (ev_idx (ev_var 0) (ev_var 1)) ea_nil))) (ea_cons (ev_call G_fraction L_fraction (hr.mono (by decide)) (by rfl) T.M_fraction T.F_fraction.kp T.B_fraction (ea_cons (ev_sub (ev_var 2) (ev_var 1)) (ea_cons ev_int ea_nil))) ea_nil))))), ?_⟩
    rfl
theorem ok_least_at : FnOk P w K mg base CX0 4 va.f13 vd.d13 ["one", "other", "k"] (spPure (W0 K c) 3 m_least_at) := by
  have G_lesser := ok_lesser (P := P) (w := w) (base := base) (c := c) T
  have G_plus := ok_plus (P := P) (w := w) (base := base) (c := c) T
  refine ev_fn (c := c) (b := b_least_at) T.F_least_at sc_least_at rfl rfl rfl fun cdv A outer s H E hr => by
    refine ⟨_, _, (eb_cons (es_set 3 sc_least_at.nd ev_non)
    (eb_cons (es_for PassesOwn.never rfl (ei_rng1 (by rfl) T.Z_range (ea_cons (ev_len (by rfl) T.Z_len (ea_cons (ev_var 0) ea_nil)) ea_nil)) (eg_name (ws := [4]) 4 sc_least_at.nd) (eb_one (es_if (et_w (ew_and (et_leLt ev_int (ev_sub (ev_var 2) (ev_var 4)) (ev_len (by rfl) T.Z_len (ea_cons (ev_var 1) ea_nil))) (ew_and (et_notN (ev_idx (ev_var 0) (ev_var 4)) ev_non) (ew_and1 (et_notN (ev_idx (ev_var 1) (ev_sub (ev_var 2) (ev_var 4))) ev_non))))) (eb_one (es_set 3 sc_least_at.nd (ev_call G_lesser L_lesser (hr.mono (by decide)) (by rfl) T.M_lesser T.F_lesser.kp T.B_lesser (ea_cons (ev_var 3) (ea_cons (ev_call G_plus L_plus (hr.mono (by decide)) (by rfl) T.M_plus T.F_plus.kp T.B_plus (ea_cons (ev_idx (ev_var 0) (ev_var 4)) (ea_cons (ev_idx (ev_var 1) (ev_sub (ev_var 2) (ev_var 4))) ea_nil))) ea_nil))))) eb_nil)))
    (eb_one (es_ret (ev_move 3))))), ?_⟩
    rfl
theorem ok_next_corner : FnOk P w K mg base CX0 5 va.f9 vd.d9 ["sizes", "s"] (spPure (W0 K c) 2 m_next_corner) := by
  have G_is_less := ok_is_less (P := P) (w := w) (base := base) (c := c) T
  have G_slope_between := ok_slope_between (P := P) (w := w) (base := base) (c := c) T
  refine ev_fn (c := c) (b := b_next_corner) T.F_next_corner sc_next_corner rfl rfl rfl fun cdv A outer s H E hr => by
    refine ⟨_, _, (eb_cons (es_set 2 sc_next_corner.nd ev_non)
    (eb_cons (es_set 3 sc_next_corner.nd ev_non)
    (eb_cons (es_for PassesOwn.never rfl (ei_rng2 (by rfl) T.Z_range (ea_cons (ev_add (ev_var 1) ev_int) (ea_cons (ev_len (by rfl) T.Z_len (ea_cons (ev_var 0) ea_nil)) ea_nil))) (eg_name (ws := [4]) 4 sc_next_corner.nd) (eb_one (es_if (et_notN (ev_idx (ev_var 0) (ev_var 4)) ev_non) (eb_cons (es_set 5 sc_next_corner.nd (ev_call G_slope_between L_slope_between (hr.mono (by decide)) (by rfl) T.M_slope_between T.F_slope_between.kp T.B_slope_between (ea_cons (ev_var 0) (ea_cons (ev_var 1) (ea_cons (ev_var 4) ea_nil)))))
    (eb_one (es_if (et_w (ew_or (et_isN (ev_var 3) ev_non) (ew_or1 (et_not (et_val (ev_call G_is_less L_is_less (hr.mono (by decide)) (by rfl) T.M_is_less T.F_is_less.kp T.B_is_less (ea_cons (ev_var 3) (ea_cons (ev_var 5) ea_nil)))))))) (eb_cons (es_set 2 sc_next_corner.nd (ev_move 4))
    (eb_one (es_set 3 sc_next_corner.nd (ev_move 5)))) eb_nil))) eb_nil)))
    (eb_one (es_ret (ev_tup (ea_cons (ev_move 2) (ea_cons (ev_move 3) ea_nil)))))))), ?_⟩
    rfl
theorem ok_joined : FnOk P w K mg base CX0 5 va.f14 vd.d14 ["one", "other"] (spPure (W0 K c) 2 m_joined) := by
  have G_least_at := ok_least_at (P := P) (w := w) (base := base) (c := c) T
  refine ev_fn (c := c) (b := b_joined) T.F_joined sc_joined rfl rfl rfl fun cdv A outer s H E hr => by
    refine ⟨_, _, (eb_one (es_ret (ev_lc [0, 1] [] rfl sc_joined.nd (ei_rng1 (by rfl) T.Z_range (ea_cons (ev_sub (ev_add (ev_len (by rfl) T.Z_len (ea_cons (ev_var 0) ea_nil)) (ev_len (by rfl) T.Z_len (ea_cons (ev_var 1) ea_nil))) ev_int) ea_nil)) (blkOk_by (N := N_joined) (sc := defScope (top 14)) (own := [("k", 2)]) (by decide +kernel)) (fun _ _ _ _ _ => (eg_name (ws := ([("k", 2)] : List (Str × Nat)).map (·.2)) 2 sc_joined.nd)) (fun _ _ _ _ _ => ef_nil) (fun _ _ _ _ _ => (ev_call G_least_at L_least_at (hr.mono (by decide)) (by rfl) T.M_least_at T.F_least_at.kp T.B_least_at (ea_cons (ev_var 0) (ea_cons (ev_var 1) (ea_cons (ev_var 2) ea_nil)))))))), ?_⟩
    rfl
theorem ok_sides : FnOk P w K mg base CX0 6 va.f11 vd.d11 ["sizes"] (spPure (W0 K c) 1 m_sides) := by
  have G_first_place := ok_first_place (P := P) (w := w) (base := base) (c := c) T
  have G_next_corner := ok_next_corner (P := P) (w := w) (base := base) (c := c) T
  refine ev_fn (c := c) (b := b_sides) T.F_sides sc_sides rfl rfl rfl fun cdv A outer s H E hr => by
    refine ⟨_, _, (eb_cons (es_set 1 sc_sides.nd (ev_lst ea_nil))
    (eb_cons (es_set 2 sc_sides.nd (ev_call G_first_place L_first_place (hr.mono (by decide)) (by rfl) T.M_first_place T.F_first_place.kp T.B_first_place (ea_cons (ev_var 0) ea_nil)))
    (eb_cons (es_while PassesOwn.never (et_lt (ev_var 2) (ev_sub (ev_len (by rfl) T.Z_len (ea_cons (ev_var 0) ea_nil)) ev_int)) (eb_cons (es_asg (ev_call G_next_corner L_next_corner (hr.mono (by decide)) (by rfl) T.M_next_corner T.F_next_corner.kp T.B_next_corner (ea_cons (ev_var 0) (ea_cons (ev_var 2) ea_nil))) (eg_tup rfl (egs_cons (eg_name (ws := [3, 4]) 3 sc_sides.nd) (egs_cons (eg_name (ws := [3, 4]) 4 sc_sides.nd) egs_nil))))
    (eb_cons (es_append 1 (ev_tup (ea_cons (ev_move 2) (ea_cons (ev_var 3) (ea_cons (ev_move 4) ea_nil)))))
    (eb_one (es_set 2 sc_sides.nd (ev_move 3))))))
    (eb_one (es_ret (ev_move 1)))))), ?_⟩
    rfl
theorem ok_law : FnOk P w K mg base CX0 7 va.f23 vd.d23 ["_law_script"] (spPure (W0 K c) 1 m_law) := by
  have G_u_law_bag := ok_u_law_bag (P := P) (w := w) (base := base) (c := c) T
  have G_u_law_begin := ok_u_law_begin (P := P) (w := w) (base := base) (c := c) T
  have G_u_law_lengths := ok_u_law_lengths (P := P) (w := w) (base := base) (c := c) T
  have G_u_law_merged := ok_u_law_merged (P := P) (w := w) (base := base) (c := c) T
  have G_u_law_sizes := ok_u_law_sizes (P := P) (w := w) (base := base) (c := c) T
  have G_joined := ok_joined (P := P) (w := w) (base := base) (c := c) T
  have G_sides := ok_sides (P := P) (w := w) (base := base) (c := c) T
  refine ev_fn (c := c) (b := b_law) T.F_law sc_law rfl rfl rfl fun cdv A outer s H E hr => by
    refine ⟨_, _, (eb_cons (es_for PassesOwn.never rfl (ei_rng3 (by rfl) T.Z_range (ea_cons ev_int (ea_cons (ev_max2 rfl (by rfl) T.Z_max (ea_cons ev_int (ea_cons (ev_min2 rfl (by rfl) T.Z_min (ea_cons ev_int (ea_cons (ev_len (by rfl) T.Z_len (ea_cons (ev_var 0) ea_nil)) ea_nil))) ea_nil))) (ea_cons ev_int ea_nil)))) (eg_name (ws := [1]) 1 sc_law.nd) (eb_cons (es_set 2 sc_law.nd (ev_call G_u_law_bag L_u_law_bag (hr.mono (by decide)) (by rfl) T.M_u_law_bag T.F_u_law_bag.kp T.B_u_law_bag (ea_cons (ev_var 0) (ea_cons (ev_var 1) ea_nil))))
    (eb_cons (es_set 3 sc_law.nd (ev_callIO 2 G_u_law_sizes L_u_law_sizes (hr.mono (by decide)) (by rfl) T.M_u_law_sizes T.F_u_law_sizes.kp T.B_u_law_sizes (ea_cons ev_int ea_nil)))
    (eb_cons (es_set 4 sc_law.nd (ev_callT G_u_law_sizes L_u_law_sizes (hr.mono (by decide)) (by rfl) T.M_u_law_sizes T.F_u_law_sizes.kp T.B_u_law_sizes (ev_call G_u_law_bag L_u_law_bag (hr.mono (by decide)) (by rfl) T.M_u_law_bag T.F_u_law_bag.kp T.B_u_law_bag (ea_cons (ev_var 0) (ea_cons (ev_add (ev_var 1) ev_int) ea_nil))) (ea_cons ev_int ea_nil)))
    (eb_cons (es_set 5 sc_law.nd (ev_call G_joined L_joined (hr.mono (by decide)) (by rfl) T.M_joined T.F_joined.kp T.B_joined (ea_cons (ev_var 3) (ea_cons (ev_var 4) ea_nil))))
    (eb_cons (es_set 6 sc_law.nd (ev_call G_u_law_merged L_u_law_merged (hr.mono (by decide)) (by rfl) T.M_u_law_merged T.F_u_law_merged.kp T.B_u_law_merged (ea_cons (ev_call G_u_law_lengths L_u_law_lengths (hr.mono (by decide)) (by rfl) T.M_u_law_lengths T.F_u_law_lengths.kp T.B_u_law_lengths (ea_cons (ev_call G_sides L_sides (hr.mono (by decide)) (by rfl) T.M_sides T.F_sides.kp T.B_sides (ea_cons (ev_var 3) ea_nil)) ea_nil)) (ea_cons (ev_call G_u_law_lengths L_u_law_lengths (hr.mono (by decide)) (by rfl) T.M_u_law_lengths T.F_u_law_lengths.kp T.B_u_law_lengths (ea_cons (ev_call G_sides L_sides (hr.mono (by decide)) (by rfl) T.M_sides T.F_sides.kp T.B_sides (ea_cons (ev_var 4) ea_nil)) ea_nil)) ea_nil))))
    (eb_cons (es_set 7 sc_law.nd (ev_call G_u_law_lengths L_u_law_lengths (hr.mono (by decide)) (by rfl) T.M_u_law_lengths T.F_u_law_lengths.kp T.B_u_law_lengths (ea_cons (ev_call G_sides L_sides (hr.mono (by decide)) (by rfl) T.M_sides T.F_sides.kp T.B_sides (ea_cons (ev_var 5) ea_nil)) ea_nil)))
    (eb_cons (es_if (et_w (ew_or (et_ne hr.units (ev_sortD hr.units (by rfl) T.Z_sorted (ea_cons (ev_var 7) ea_nil)) (ev_sortD hr.units (by rfl) T.Z_sorted (ea_cons (ev_var 6) ea_nil))) (ew_or1 (et_ne hr.units (ev_call G_u_law_begin L_u_law_begin (hr.mono (by decide)) (by rfl) T.M_u_law_begin T.F_u_law_begin.kp T.B_u_law_begin (ea_cons (ev_var 5) ea_nil)) (ev_add (ev_call G_u_law_begin L_u_law_begin (hr.mono (by decide)) (by rfl) T.M_u_law_begin T.F_u_law_begin.kp T.B_u_law_begin (ea_cons (ev_var 3) ea_nil)) (ev_call G_u_law_begin L_u_law_begin (hr.mono (by decide)) (by rfl) T.M_u_law_begin T.F_u_law_begin.kp T.B_u_law_begin (ea_cons (ev_var 4) ea_nil))))))) (eb_one (es_ret ev_bl)) eb_nil)
    (eb_one (es_if (et_ne hr.units (ev_call G_joined L_joined (hr.mono (by decide)) (by rfl) T.M_joined T.F_joined.kp T.B_joined (ea_cons (ev_var 5) (ea_cons (ev_var 3) ea_nil))) (ev_call G_joined L_joined (hr.mono (by decide)) (by rfl) T.M_joined T.F_joined.kp T.B_joined (ea_cons (ev_var 3) (ea_cons (ev_call G_joined L_joined (hr.mono (by decide)) (by rfl) T.M_joined T.F_joined.kp T.B_joined (ea_cons (ev_var 4) (ea_cons (ev_var 3) ea_nil))) ea_nil)))) (eb_one (es_ret ev_bl)) eb_nil))))))))))
    (eb_one (es_ret ev_bl))), ?_⟩
    rfl
end
end Tr
namespace Tr
open PySem L2
theorem ev_common (a b : Int) : m_common [.int a, .int b] = some ⟨.O, .int (Int.gcd a b)⟩ := by
  obtain ⟨g, m3, m4, e, hg⟩ := gcd_loop _ a b .O .O (Nat.le_refl _)
  have e : lp_common_1 _ = _ := e
  simp only [m_common, fnSem, b_common]
  simp [e]
  split <;> omega
theorem divOk_gcd {t b : Int} {n : Nat} (h : b ≠ 0) (hb : b.natAbs < 2 ^ n) (hn : n ≤ 9000) : divOk ((Int.gcd t b : Nat) : Int) = true ∧ divOk (-((Int.gcd t b : Nat) : Int)) = true := by
  have g : Int.gcd t b ≠ 0 := fun z => h (Int.gcd_eq_zero_iff.mp z).2
  have h1 : Int.gcd t b ≤ b.natAbs := Nat.le_of_dvd (by omega) (Int.gcd_dvd_natAbs_right ..)
  exact ⟨divOk_of (n := n) (by omega) (by omega) hn, divOk_of (n := n) (by omega) (by omega) hn⟩
theorem ev_fraction {t b : Int} {n : Nat} (h : b ≠ 0) (hb : b.natAbs < 2 ^ n) (hn : n ≤ 9000) : m_fraction [.int t, .int b] = some ⟨.O, .tup [.int (frT t b), .int (frB t b)]⟩ := by
  obtain ⟨d1, d2⟩ := divOk_gcd (t := t) h hb hn
  by_cases hn : b < 0
  · have e : frG t b = -((Int.gcd t b : Nat) : Int) := by unfold frG; rw [if_pos hn]; omega
    simp [m_fraction, fnSem, b_fraction, ev_common, hn, frT, frB, e, d2]
  · have e : frG t b = ((Int.gcd t b : Nat) : Int) := by unfold frG; rw [if_neg hn]
    simp [m_fraction, fnSem, b_fraction, ev_common, hn, frT, frB, e, d1]
end Tr
namespace Tr
open PySem L2
theorem low_loop {x0 x1 : Option Slot} : ∀ (n : Nat) (a b : Int) (x4 : Option Slot), b.natAbs ≤ n → 0 ≤ a → 0 ≤ b → ∃ x4', lp_u_law_low_1 [x0, x1, some ⟨.O, false, .int a⟩, some ⟨.O, false, .int b⟩, x4] = some (.nx [x0, x1, some ⟨.O, false, .int (Int.gcd a b)⟩, some ⟨.O, false, .int 0⟩, x4']) := by
  intro n
  induction n with
  | zero =>
    intro a b x4 h ha hb
    have e : b = 0 := by omega
    subst e
    refine ⟨x4, ?_⟩
    rw [Int.gcd_zero, show ((a.natAbs : Nat) : Int) = a by omega]
    exact while_false (by simp)
  | succ n ih =>
    intro a b x4 h ha hb
    by_cases q : b = 0
    · subst q
      refine ⟨x4, ?_⟩
      rw [Int.gcd_zero, show ((a.natAbs : Nat) : Int) = a by omega]
      exact while_false (by simp)
    · have r := @fmod_range a b (by omega)
      obtain ⟨x4', e⟩ := ih b (a.fmod b) (some ⟨.O, false, .int (a.fmod b)⟩) (by omega) hb r.1
      rw [gcd_fmod] at e
      refine ⟨x4', ?_⟩
      have bp : 0 < b := by omega
      rw [← e, lp_u_law_low_1]
      refine while_step (ρ1 := [x0, x1, some ⟨.O, false, .int a⟩, some ⟨.O, false, .int b⟩, x4]) (by simp [bp]) ?_
      simp only [w_u_law_low_1]
      simp [q]
theorem ev_low {t b : Int} {n : Nat} (h : b ≠ 0) (hb : b.natAbs < 2 ^ n) (hn : n ≤ 9000) : m_u_law_low [.int t, .int b] = some ⟨.O, .tup [.int (frT t b), .int (frB t b)]⟩ := by
  obtain ⟨x4, e⟩ := low_loop (x0 := some ⟨.O, false, .int t⟩) (x1 := some ⟨.O, false, .int b⟩) _ (if t < 0 then -t else t) (if b < 0 then -b else b) none (Nat.le_refl _) (by split <;> omega) (by split <;> omega)
  have eg : Int.gcd (if t < 0 then -t else t) (if b < 0 then -b else b) = Int.gcd t b := by
    split <;> split <;> simp
  rw [eg] at e
  have g : Int.gcd t b ≠ 0 := fun z => h (Int.gcd_eq_zero_iff.mp z).2
  have h1 : Int.gcd t b ≤ b.natAbs := Nat.le_of_dvd (by omega) (Int.gcd_dvd_natAbs_right ..)
  have d1 : divOk ((Int.gcd t b : Nat) : Int) = true := divOk_of (n := n) (by omega) (by omega) hn
  have d2 : divOk (-((Int.gcd t b : Nat) : Int)) = true := divOk_of (n := n) (by omega) (by omega) hn
  simp only [m_u_law_low, fnSem, b_u_law_low]
  by_cases hn : b < 0
  · have e2 : frG t b = -((Int.gcd t b : Nat) : Int) := by unfold frG; rw [if_pos hn]; omega
    simp only [if_pos hn] at e
    simp [e, hn, frT, frB, e2, d2]
  · have e2 : frG t b = ((Int.gcd t b : Nat) : Int) := by unfold frG; rw [if_neg hn]
    simp only [if_neg hn] at e
    simp [e, hn, frT, frB, e2, d1]
end Tr
namespace Tr
open PySem L2
section
variable {ρ ρ1 : Env} {i : Nat} {f : SE} {fs : SA}
@[simp] theorem sCallIO_ap {o : List D → Option (Val × D)} : sCallIO i o fs ρ = (match ρ[i]? with
  | some (some s0) => (match fs ρ with
    | some (rs, ρ1) => (match ρ1[i]? with
      | some (some ⟨.O, false, d⟩) => (match o (d :: rs.map (fun (x : Val) => x.d)) with
        | some (r, d') => if r.m = .O then some (r, restore ρ (ρ1.set i (some ⟨.O, false, d'⟩))) else some (r, ρ1.set i (some ⟨.O, false, d'⟩))
        | none => none)
      | _ => none)
    | none => none)
  | _ => none) := by
  unfold sCallIO sealE
  cases e0 : ρ[i]? with
  | none => simp [e0]
  | some x =>
    cases x with
    | none => simp [e0]
    | some s =>
      obtain ⟨m, l, d⟩ := s
      cases e1 : fs ρ with
      | none => simp [e0, e1]
      | some y =>
        obtain ⟨rs, ρ1⟩ := y
        cases e2 : ρ1[i]? with
        | none => simp [e0, e1, e2]
        | some z =>
          cases z with
          | none => simp [e0, e1, e2]
          | some t =>
            obtain ⟨m2, l2, d2⟩ := t
            cases m2 <;> cases l2 <;> first
              | simp [e0, e1, e2]
              | skip
            cases e3 : o (d2 :: rs.map (fun (x : Val) => x.d)) with
            | none => simp [e0, e1, e2, e3]
            | some w => obtain ⟨r, d3⟩ := w; simp [e0, e1, e2, e3]
@[simp] theorem sCallT_ap {o : List D → Option (Val × D)} : sCallT o f fs ρ = (match f ρ with
  | some (r0, ρ1) => (match fs ρ1 with
    | some (rs, ρ2) => if r0.m = .O then (match o (r0.d :: rs.map (fun (x : Val) => x.d)) with
        | some (r, _) => if r.m = .O then some (r, restore ρ ρ2) else some (r, ρ2)
        | none => none) else none
    | none => none)
  | none => none) := by
  unfold sCallT sealE
  cases e : f ρ with
  | none => simp [e]
  | some x =>
    obtain ⟨r0, ρ1⟩ := x
    cases e1 : fs ρ1 with
    | none => simp [e, e1]
    | some x =>
      obtain ⟨rs, ρ2⟩ := x
      by_cases h : r0.m = .O
      · cases e2 : o (r0.d :: rs.map (fun (x : Val) => x.d)) with
        | none => simp [e, e1, h, e2]
        | some x => obtain ⟨r, d⟩ := x; simp [e, e1, h, e2]
      · simp [e, e1, h]
@[simp] theorem own0_O {r : Val} {d : D} : own0 r (some ⟨.O, false, d⟩ :: ρ) = some (r, d) := rfl
end
end Tr
namespace Tr
open PySem L2
theorem bag_0 {m p : Mode} {g s : Int} : opIdx [⟨m, .lst [.int g, .int s]⟩, ⟨p, .int 0⟩] = some ⟨.O, .int g⟩ := by simp [opIdx, atI, ixN]
theorem bag_1 {m p : Mode} {g s : Int} : opIdx [⟨m, .lst [.int g, .int s]⟩, ⟨p, .int 1⟩] = some ⟨.O, .int s⟩ := by simp [opIdx, atI, ixN]
/-- a bag of the law -/
def Bag (b : D) : Prop := ∃ g s : Int, b = .lst [.int g, .int s] ∧ 0 ≤ s ∧ s < 2147483648
theorem idx_scr {m p : Mode} {ns : List Int} {k : Int} (h0 : 0 ≤ k) (h : k < ns.length) : opIdx [⟨m, .scr ns⟩, ⟨p, .int k⟩] = some ⟨.O, .int (ns.getD k.toNat 0)⟩ := by
  obtain ⟨j, rfl⟩ : ∃ j : Nat, k = j := ⟨k.toNat, by lia⟩
  have hj : j < ns.length := by lia
  have hn : ¬ ((j : Int) < 0) := by lia
  simp [opIdx, atI, ixN, hn, hj]
theorem ev_bag {ns : List Int} {k : Int} (h0 : 0 ≤ k) (h : k < 1000) : ∃ b, m_u_law_bag [.scr ns, .int k] = some ⟨.O, b⟩ ∧ Bag b := by
  obtain ⟨c, hc⟩ : ∃ c : Int, c = (if k < ns.length then ns.getD k.toNat 0 else 0) := ⟨_, rfl⟩
  obtain ⟨ab, hab⟩ : ∃ ab : Int, ab = (if c < 0 then -c else c) := ⟨_, rfl⟩
  have b1 : bitOk 7919 k = true := bitOk_of (n := 32) (m := 32) (by lia) (by lia) (by decide)
  have r := @fmod_range (c + 7919 * k + 13) 2147483629 (by decide)
  have ea : ∀ m, opAbs [⟨m, .int c⟩] = some ⟨.O, .int ab⟩ := fun m => by rw [hab]; rfl
  refine ⟨.lst [.int (if 1000000000000000000 ≤ ab then ab else 0), .int ((c + 7919 * k + 13).fmod 2147483629 + 1)], ?_, _, _, rfl, by lia, by lia⟩
  by_cases q : k < ns.length
  · rw [if_pos q] at hc
    have e : ∀ m p, opIdx [⟨m, .scr ns⟩, ⟨p, .int k⟩] = some ⟨.O, .int c⟩ := fun m p => by rw [idx_scr h0 q, hc]
    by_cases q2 : 1000000000000000000 ≤ ab <;> simp [m_u_law_bag, fnSem, b_u_law_bag, q, e, b1, q2, ea, -opAbs_i]
  · rw [if_neg q] at hc
    have q2 : ¬ 1000000000000000000 ≤ ab := by rw [hab, hc]; decide
    subst hc
    simp [m_u_law_bag, fnSem, b_u_law_bag, q, b1, q2, ea, -opAbs_i]
theorem ev_take {b : D} (hb : Bag b) {n : Int} (h1 : 1 ≤ n) (h2 : n < 1099511627776) : ∃ (r : Int) (b' : D), m_u_law_take [b, .int n] = some (⟨.O, .int r⟩, b') ∧ 0 ≤ r ∧ r < n ∧ Bag b' := by
  obtain ⟨g, s, rfl, s0, s1⟩ := hb
  have d0 : divOk n = true := divOk_of (n := 40) (by lia) (by lia) (by decide)
  have n0 : ¬ n = 0 := by lia
  by_cases q : 0 < g
  · have r := @fmod_range g n (by lia)
    refine ⟨g.fmod n, .lst [.int (g.fdiv n), .int s], ?_, r.1, r.2, _, _, rfl, s0, s1⟩
    simp [m_u_law_take, fnSemIO, b_u_law_take, startIO, q, d0, n0, bag_0, bag_1, isLst, putAt, atI, ixN]
  · have b1 : bitOk s 48271 = true := bitOk_of (n := 32) (m := 32) (by lia) (by lia) (by decide)
    have r1 := @fmod_range (s * 48271 + 11) 2147483647 (by decide)
    generalize ht : (s * 48271 + 11).fmod 2147483647 = t at *
    have d8 : divOk 8 = true := divOk_of (n := 40) (by lia) (by lia) (by decide)
    have r2 : (t.fdiv 8).natAbs < 2 ^ 32 := by
      rw [Int.fdiv_eq_ediv_of_nonneg _ (by decide)]; lia
    have b2 : bitOk (t.fdiv 8) 69621 = true := bitOk_of (n := 32) (m := 32) r2 (by lia) (by decide)
    have r := @fmod_range ((t.fdiv 8 * 69621).fmod 2147483629) n (by lia)
    refine ⟨((t.fdiv 8 * 69621).fmod 2147483629).fmod n, .lst [.int g, .int t], ?_, r.1, r.2, _, _, rfl, r1.1, by lia⟩
    simp [m_u_law_take, fnSemIO, b_u_law_take, startIO, q, d0, n0, b1, d8, b2, ht, bag_0, bag_1, isLst, putAt, atI, ixN]
end Tr
namespace Tr
open PySem L2
section
variable {ρ ρ1 : Env} {fs : SA}
theorem fits_of {i : Int} (h : -10000000 ≤ i ∧ i ≤ 10000000) : Builtin.Range.rangeFitsLong i = true := by
  unfold Builtin.Range.rangeFitsLong
  simp
  lia
theorem iRange3_gen {m1 m2 m3 : Mode} {i j c : Int} {N : Nat} (h : fs ρ = some ([⟨m1, .int i⟩, ⟨m2, .int j⟩, ⟨m3, .int c⟩], ρ1)) (hi : -1000000 ≤ i ∧ i ≤ 1000000) (hj : -1000000 ≤ j ∧ j ≤ 1000000) (hc : -1000000 ≤ c ∧ c ≤ 1000000) (c0 : c ≠ 0)
    (hN : Builtin.Range.rangeSize i j c = N) (hN2 : N ≤ 1000000) : iRange3 fs ρ = some (step i c N, ρ1) := by
  have q : ok (c ≠ 0 ∧ c.natAbs < 1073741824 ∧ Builtin.Range.small i j c = true) = true := ok_of ⟨c0, by lia, by
    unfold Builtin.Range.small
    rw [fits_of (by lia), fits_of (by lia), fits_of (by lia), fits_of (by lia), fits_of (by lia), fits_of (by lia)]
    simp⟩
  unfold iRange3
  rw [h]
  simp only
  rw [if_pos q, hN]
  simp
noncomputable def apndD (d : D) (r : Val) : Option D :=
  match d with
  | .lst xs => if r.m = .O ∧ ok (xs.length < sizeLine) = true then some (.lst (xs ++ [r.d])) else none
  | _ => none
@[simp] theorem sApndP_ap {i : Nat} {pe : Pth} {f : SE} : sApndP i pe f ρ = (match ρ[i]? with
  | some (some ⟨.O, false, d⟩) =>
    if d.flat then none else
    (match pEv pe d (ρ.set i (some ⟨.O, true, d⟩)) with
    | some (p, d1, ρ1) =>
      (match f ρ1 with
      | some (r, ρ2) => (match apndD d1 r with
        | some d2 => some (.nx ((restore ρ ρ2).set i (some ⟨.O, false, d.put p d2⟩)))
        | none => none)
      | none => none)
    | _ => none)
  | _ => none) := by
  unfold sApndP
  generalize ρ[i]? = z
  rcases z with _ | _ | ⟨m, lk, d⟩
  · rfl
  · rfl
  · cases m <;> cases lk <;> try rfl
    by_cases hd : d.flat = true
    · simp [hd]
    · simp only [hd, if_false, Bool.false_eq_true]
      cases pEv pe d (ρ.set i (some ⟨.O, true, d⟩)) with
      | none => rfl
      | some x =>
        obtain ⟨p, d1, ρ1⟩ := x
        cases d1 with
        | lst xs =>
          simp only
          cases f ρ1 with
          | none => rfl
          | some y =>
            obtain ⟨r, ρ2⟩ := y
            simp only [apndD]
            split <;> rfl
        | _ =>
          simp only
          cases f ρ1 with
          | none => rfl
          | some y => rfl
@[simp] theorem apndD_il {xs : List Int} {a : Int} : apndD (il xs) ⟨.O, .int a⟩ = if ok (xs.length < sizeLine) = true then some (il (xs ++ [a])) else none := by
  simp [apndD, dl]
noncomputable def setD (d : D) (r : Val) (k : Int) : Option D :=
  match d with
  | .lst xs => (match ixN xs.length k with
    | some j => if r.m = .O then some (.lst (xs.set j r.d)) else none
    | none => none)
  | _ => none
@[simp] theorem sGSubP_ap {i : Nat} {pe : Pth} {g : SE} {r : Val} : sGSubP i pe g r ρ = (match ρ[i]? with
  | some (some ⟨.O, false, d⟩) =>
    if d.flat then none else
    (match pEv pe d (ρ.set i (some ⟨.O, true, d⟩)) with
    | some (p, d1, ρ1) =>
      (match g ρ1 with
      | some (⟨_, .int k⟩, ρ2) => (match setD d1 r k with
        | some d2 => some ((restore ρ ρ2).set i (some ⟨.O, false, d.put p d2⟩))
        | none => none)
      | _ => none)
    | _ => none)
  | _ => none) := by
  unfold sGSubP
  generalize ρ[i]? = z
  rcases z with _ | _ | ⟨m, lk, d⟩
  · rfl
  · rfl
  · cases m <;> cases lk <;> try rfl
    by_cases hd : d.flat = true
    · simp [hd]
    · simp only [hd, if_false, Bool.false_eq_true]
      cases pEv pe d (ρ.set i (some ⟨.O, true, d⟩)) with
      | none => rfl
      | some x =>
        obtain ⟨p, d1, ρ1⟩ := x
        cases d1 with
        | lst xs =>
          simp only
          rcases g ρ1 with _ | ⟨⟨mk, dk⟩, ρ2⟩
          · rfl
          · cases dk <;> try rfl
            simp only [setD]
            cases ixN xs.length _ with
            | none => rfl
            | some j => simp only; split <;> rfl
        | _ =>
          simp only
          rcases g ρ1 with _ | ⟨⟨mk, dk⟩, ρ2⟩
          · rfl
          · cases dk <;> rfl
@[simp] theorem pEv_base {d : D} : pEv .base d ρ = some ([], d, ρ) := rfl
@[simp] theorem pEv_ix {b : Pth} {g : SE} {d : D} : pEv (.ix b g) d ρ = (match pEv b d ρ with
    | some (p, d1, ρ1) =>
      (match g ρ1 with
      | some (⟨_, .int k⟩, ρ2) =>
        (match ixD d1 k with
        | some (j, d2) => some (p ++ [.ix j], d2, restore ρ1 ρ2)
        | none => none)
      | _ => none)
    | none => none) := rfl
@[simp] theorem ixD_tup0 {x : D} {r : List D} : ixD (.tup (x :: r)) 0 = some (0, x) := by simp [ixD, ixN]
@[simp] theorem ixD_tup1 {x y : D} {r : List D} : ixD (.tup (x :: y :: r)) 1 = some (1, y) := by
  have h : (1 : Int) < (r.length : Int) + 1 + 1 := by lia
  simp [ixD, ixN, h]
@[simp] theorem put_nil {d e : D} : d.put [] e = e := by cases d <;> rfl
@[simp] theorem put_tup {xs : List D} {k : Nat} {p : List Pst} {e : D} : (D.tup xs).put (.ix k :: p) e = (match xs[k]? with
    | some d => .tup (xs.set k (d.put p e))
    | none => .tup xs) := rfl
end
end Tr
namespace Tr
open PySem L2
/-- in lowest terms -/
def Low (u : Int × Int) : Prop := 0 < u.2 ∧ Int.gcd u.1 u.2 = 1
def val (u : Int × Int) : Rat := (u.1 : Rat) / (u.2 : Rat)
def frP (t b : Int) : Int × Int := (frT t b, frB t b)
theorem cast_ne {b : Int} (h : b ≠ 0) : (b : Rat) ≠ 0 := by exact_mod_cast h
theorem cast_pos {b : Int} (h : 0 < b) : (0 : Rat) < (b : Rat) := by exact_mod_cast h
theorem low_frP {t b : Int} (h : b ≠ 0) : Low (frP t b) := ⟨frB_pos h, fr_gcd h⟩
theorem div_eq_of {p q t b : Int} (hq : q ≠ 0) (hb : b ≠ 0) (h : p * b = t * q) : (p : Rat) / q = (t : Rat) / b := by
  have e : (p : Rat) * b = (t : Rat) * q := by exact_mod_cast h
  have q0 := cast_ne hq
  have b0 := cast_ne hb
  grind
theorem val_frP {t b : Int} (h : b ≠ 0) : val (frP t b) = (t : Rat) / b :=
  div_eq_of (by have := frB_pos (t := t) h; show frB t b ≠ 0; lia) h fr_cross
theorem val_lt {u v : Int × Int} (hu : 0 < u.2) (hv : 0 < v.2) : u.1 * v.2 < v.1 * u.2 ↔ val u < val v := by
  obtain ⟨p, q⟩ := u
  obtain ⟨r, s⟩ := v
  have q0 := cast_pos hu
  have s0 := cast_pos hv
  simp only [val] at *
  rw [Rat.div_lt_iff q0]
  have e : (r : Rat) / s * q = (r : Rat) * q / s := by grind
  rw [e]
  have : (p : Rat) < (r : Rat) * q / s ↔ (p : Rat) * s < (r : Rat) * q := by
    rw [Rat.lt_div_iff s0]
  rw [this]
  exact_mod_cast Iff.rfl
theorem val_inj {u v : Int × Int} (hu : Low u) (hv : Low v) (h : val u = val v) : u = v := by
  obtain ⟨p, q⟩ := u
  obtain ⟨r, s⟩ := v
  obtain ⟨q0, g⟩ := hu
  obtain ⟨s0, g2⟩ := hv
  simp only at q0 g s0 g2
  have e : p * s = r * q := by
    have q1 := cast_pos q0
    have s1 := cast_pos s0
    simp only [val] at h
    have : (p : Rat) * s = (r : Rat) * q := by grind
    exact_mod_cast this
  have c1 : q ∣ s := by
    have := (Int.dvd_gcd_mul_iff_dvd_mul (k := q) (n := p) (m := s)).mpr (by rw [e]; exact Int.dvd_mul_left _ _)
    rw [Int.gcd_comm, g] at this
    simpa using this
  have c2 : s ∣ q := by
    have := (Int.dvd_gcd_mul_iff_dvd_mul (k := s) (n := r) (m := q)).mpr (by rw [← e]; exact Int.dvd_mul_left _ _)
    rw [Int.gcd_comm, g2] at this
    simpa using this
  have e2 : q = s := Int.dvd_antisymm (by lia) (by lia) c1 c2
  subst e2
  have e3 : p = r := Int.eq_of_mul_eq_mul_right (by lia) e
  rw [e3]
end Tr
namespace Tr
open PySem L2
abbrev Sz := Option (Int × Int)
def fo : Sz → D
  | none => .non
  | some (p, q) => .tup [.int p, .int q]
@[simp] theorem fo_flat (x : Sz) : (fo x).flat = true := by cases x <;> rfl
/-- in lowest terms, of few digits -/
def Okf (x : Sz) : Prop := ∀ p q, x = some (p, q) → 0 < q ∧ Int.gcd p q = 1 ∧ p.natAbs < 2 ^ 60 ∧ q < 2 ^ 20
/-- of more digits -/
def Oku (x : Sz) : Prop := ∀ p q, x = some (p, q) → 0 < q ∧ Int.gcd p q = 1 ∧ p.natAbs < 2 ^ 90 ∧ q < 2 ^ 90
def Szs (L : List Sz) : Prop := (∀ x ∈ L, Okf x) ∧ L.length ≤ 100 ∧ 1 ≤ L.length
theorem oku_none : Oku none := fun _ _ e => nomatch e
theorem idx_fo {m p : Mode} {L : List Sz} {j : Nat} {x : Sz} (h : L[j]? = some x) : opIdx [⟨m, dl fo L⟩, ⟨p, .int (j : Int)⟩] = some ⟨.O, fo x⟩ := by
  rw [idx_dl h]
  cases x <;> rfl
theorem fr_id {p q : Int} (h : 0 < q) (g : Int.gcd p q = 1) : frT p q = p ∧ frB p q = q := by
  have e : frG p q = 1 := by unfold frG; rw [if_neg (by omega), g]; rfl
  constructor
  · unfold frT; rw [e]; simp
  · unfold frB; rw [e]; simp
theorem idx4 {m p : Mode} {a b c d r : Int} (h0 : 0 ≤ r) (h : r < 4) : ∃ x, (x = a ∨ x = b ∨ x = c ∨ x = d) ∧ opIdx [⟨m, .lst [.int a, .int b, .int c, .int d]⟩, ⟨p, .int r⟩] = some ⟨.O, .int x⟩ := by
  rcases (by omega : r = 0 ∨ r = 1 ∨ r = 2 ∨ r = 3) with rfl | rfl | rfl | rfl
  · exact ⟨a, by simp, by simp [opIdx, atI, ixN]⟩
  · exact ⟨b, by simp, by simp [opIdx, atI, ixN]⟩
  · exact ⟨c, by simp, by simp [opIdx, atI, ixN]⟩
  · exact ⟨d, by simp, by simp [opIdx, atI, ixN]⟩
theorem low_okf {t b : Int} (h : 0 < b) (ht : t.natAbs < 2 ^ 60) (hb : b < 2 ^ 20) : Okf (some (frT t b, frB t b)) := fun p q e => by
  cases e
  have f := fr_le (t := t) (b := b) (by omega)
  exact ⟨frB_pos (by omega), fr_gcd (by omega), by omega, by omega⟩
/-- as the laws draw them -/
def Oks (x : Sz) : Prop := ∀ p q, x = some (p, q) → 0 < q ∧ Int.gcd p q = 1 ∧ p.natAbs < 2 ^ 31 ∧ q ≤ 13
theorem Oks.f {x : Sz} (h : Oks x) : Okf x := fun p q e => by
  obtain ⟨a, b, c, d⟩ := h p q e
  exact ⟨a, b, by omega, by omega⟩
theorem low_oks {t b : Int} (h : 0 < b) (ht : t.natAbs < 2 ^ 31) (hb : b ≤ 13) : Oks (some (frT t b, frB t b)) := fun p q e => by
  cases e
  have f := fr_le (t := t) (b := b) (by omega)
  exact ⟨frB_pos (by omega), fr_gcd (by omega), by omega, by omega⟩
end Tr
namespace Tr
open PySem L2
theorem ev_sizes3 {b : D} (hb : Bag b) {most : Int} (h1 : 1 ≤ most) (h2 : most ≤ 60) : ∃ (L : List Sz) (b' : D), m_u_law_sizes [b, .int most] = some (⟨.O, dl fo L⟩, b') ∧ Szs L ∧ Bag b' ∧ (∃ L0 u, L = L0 ++ [some u]) ∧ (∀ x ∈ L, Oks x) ∧ (L.length : Int) ≤ most := by
  obtain ⟨r1, b1, e1, r1a, r1b, hb1⟩ := ev_take hb (n := 4) (by decide) (by decide)
  obtain ⟨far, hf, ef⟩ := @idx4 .O .O 4 12 60 1000000000 r1 r1a r1b
  have hf : 4 ≤ far ∧ far ≤ 1000000000 := by omega
  have d2 : divOk 2 = true := divOk_of (n := 40) (by omega) (by omega) (by decide)
  obtain ⟨r2, b2, e2, r2a, r2b, hb2⟩ := ev_take hb1 (n := most) h1 (by omega)
  obtain ⟨n, rfl⟩ : ∃ n : Nat, r2 = n := ⟨r2.toNat, by omega⟩
  have sn : small (n : Int) = true := small_of (by omega)
  obtain ⟨ρ', e, b3, L, x4, x5, rfl, hb3, hL, hl⟩ := sFor_up0 (src := iRange1 (sCons (sCallIO 0 m_u_law_take (sCons (sVar 1) sNil)) sNil)) (g := sGName 4) (b := w_u_law_sizes_1) (n := n)
    (ρ := [some ⟨.O, false, b1⟩, some ⟨.O, false, .int most⟩, some ⟨.O, false, .int far⟩, some ⟨.O, false, .lst []⟩, none, none])
    (fun j ρ => ∃ (b : D) (L : List Sz) (x4 x5 : Option Slot), ρ = [some ⟨.O, false, b⟩, some ⟨.O, false, .int most⟩, some ⟨.O, false, .int far⟩, some ⟨.O, false, dl fo L⟩, x4, x5] ∧ Bag b ∧ (∀ x ∈ L, Oks x) ∧ L.length = j)
    (by simp [e2, sn]; rfl) ⟨b2, [], none, none, by simp [freeze2, dl], hb2, by simp, rfl⟩ (by
      rintro j ρ hj ⟨b, L, x4, x5, rfl, hb, hL, hl⟩
      obtain ⟨t1, c1, g1, t1a, t1b, hc1⟩ := ev_take hb (n := 2 * far + 1) (by omega) (by omega)
      obtain ⟨t2, c2, g2, t2a, t2b, hc2⟩ := ev_take hc1 (n := 4) (by decide) (by decide)
      obtain ⟨w, hw, ew⟩ := @idx4 .O .O 1 1 2 12 t2 t2a t2b
      obtain ⟨t3, c3, g3, t3a, t3b, hc3⟩ := ev_take hc2 (n := w) (by omega) (by omega)
      obtain ⟨t4, c4, g4, t4a, t4b, hc4⟩ := ev_take hc3 (n := 4) (by decide) (by decide)
      have bt : bitOk 2 far = true := bitOk_of (n := 40) (m := 40) (by omega) (by omega) (by decide)
      have fd : far.fdiv 2 = far / 2 := Int.fdiv_eq_ediv_of_nonneg _ (by decide)
      have el := ev_low (t := t1 - far.fdiv 2) (b := 1 + t3) (n := 40) (by omega) (by omega) (by decide)
      have ok := low_oks (t := t1 - far.fdiv 2) (b := 1 + t3) (by omega) (by omega) (by omega)
      have ln : L.length < sizeLine := by have := sizeLine_big; omega
      have a1 := apnd_O (h := fo) (lk := false) (x := none) (xs := L) (ok_of ln)
      have a2 := apnd_O (h := fo) (lk := false) (x := some (frT (t1 - far.fdiv 2) (1 + t3), frB (t1 - far.fdiv 2) (1 + t3))) (xs := L) (ok_of ln)
      simp only [fo] at a1 a2
      simp only [w_u_law_sizes_1]
      by_cases q : t4 = 0
      · subst q
        simp [g1, g2, g3, g4, ew, bt, d2, el, a1]
        refine ⟨_, L ++ [none], ⟨rfl, rfl⟩, hc4, fun x hx => ?_, by simp [hl]⟩
        rcases List.mem_append.mp hx with z | z
        · exact hL x z
        · rw [List.mem_singleton.mp z]; exact fun _ _ e => nomatch e
      · simp [g1, g2, g3, g4, ew, bt, d2, el, a2, q]
        refine ⟨_, L ++ [some (frT (t1 - far.fdiv 2) (1 + t3), frB (t1 - far.fdiv 2) (1 + t3))], ⟨rfl, rfl⟩, hc4, fun x hx => ?_, by simp [hl]⟩
        rcases List.mem_append.mp hx with z | z
        · exact hL x z
        · rw [List.mem_singleton.mp z]; exact ok)
  have e : lp_u_law_sizes_1 _ = _ := e
  obtain ⟨t1, c1, g1, t1a, t1b, hc1⟩ := ev_take hb3 (n := far + 1) (by omega) (by omega)
  obtain ⟨t2, c2, g2, t2a, t2b, hc2⟩ := ev_take hc1 (n := 3) (by decide) (by decide)
  have el := ev_low (t := t1) (b := 1 + t2) (n := 40) (by omega) (by omega) (by decide)
  have ok := low_oks (t := t1) (b := 1 + t2) (by omega) (by omega) (by omega)
  have hA : ∀ x ∈ L ++ [some (frT t1 (1 + t2), frB t1 (1 + t2))], Oks x := fun x hx => by
    rcases List.mem_append.mp hx with z | z
    · exact hL x z
    · rw [List.mem_singleton.mp z]; exact ok
  refine ⟨L ++ [some (frT t1 (1 + t2), frB t1 (1 + t2))], c2, ?_, ⟨fun x hx => (hA x hx).f, by simp; omega, by simp⟩, hc2, ⟨_, _, rfl⟩, hA, by simp; omega⟩
  have ea : ∀ m p, opAdd [⟨m, dl fo L⟩, ⟨p, .lst [.tup [.int (frT t1 (1 + t2)), .int (frB t1 (1 + t2))]]⟩] = some ⟨.O, dl fo (L ++ [some (frT t1 (1 + t2), frB t1 (1 + t2))])⟩ := fun m p => by
    have := opAdd_lst (m := m) (p := p) (x := L.map fo) (y := [fo (some (frT t1 (1 + t2), frB t1 (1 + t2)))])
    rw [if_pos (ok_of (by have := sizeLine_big; simp; omega))] at this
    refine this.trans ?_
    rw [show L.map fo ++ [fo (some (frT t1 (1 + t2), frB t1 (1 + t2)))] = (L ++ [some (frT t1 (1 + t2), frB t1 (1 + t2))]).map fo by simp, mkL_flat fun x _ => fo_flat x]
  simp only [m_u_law_sizes, fnSemIO, b_u_law_sizes, startIO]
  simp [e1, ef, e, g1, g2, el, ea]
theorem fo_good (n : Nat) (x : Sz) : D.good (n + 1) (fo x) = true := by
  cases x with
  | none => exact good_non
  | some u => obtain ⟨p, q⟩ := u; simp [fo]
theorem fo_goods (n : Nat) : ∀ L : List Sz, D.goods (n + 1) (L.map fo) = true
  | [] => goods_nil
  | x :: L => by simp [fo_good, fo_goods n L]
theorem dl_good (n : Nat) (L : List Sz) : D.good (n + 2) (dl fo L) = true := by
  rw [show dl fo L = .lst (L.map fo) from rfl, good_lst]
  exact fo_goods n L
theorem ne_self {m p : Mode} {d : D} (h : D.good 60 d = true) : opNe [⟨m, d⟩, ⟨p, d⟩] = some ⟨.O, .bl false⟩ := by
  rw [opNe_ap, if_pos (by simp [pyOk_good h]), eqv_self d (good_ok _ _ h).1]
  rfl
theorem ne_dl {m p : Mode} {L : List Sz} : opNe [⟨m, dl fo L⟩, ⟨p, dl fo L⟩] = some ⟨.O, .bl false⟩ := ne_self (dl_good 58 L)
end Tr
namespace Tr
open PySem L2
def plusF (u v : Int × Int) : Int × Int := (frT (u.1 * v.2 + v.1 * u.2) (u.2 * v.2), frB (u.1 * v.2 + v.1 * u.2) (u.2 * v.2))
def lessF (u v : Int × Int) : Bool := decide (u.1 * v.2 < v.1 * u.2)
def bst : Sz → Sz → Sz
  | none, x => x
  | some a, none => some a
  | some a, some b => if lessF b a then some b else some a
def con (L M : List Sz) (k i : Nat) : Sz :=
  if i ≤ k then
    match L[i]?, M[k - i]? with
    | some (some u), some (some v) => some (plusF u v)
    | _, _ => none
  else none
def acc (L M : List Sz) (k : Nat) : Nat → Sz
  | 0 => none
  | n + 1 => bst (acc L M k n) (con L M k n)
theorem bst_none (x : Sz) : bst x none = x := by cases x <;> rfl
def jn (L M : List Sz) : List Sz := (List.range (L.length + M.length - 1)).map fun k => acc L M k L.length
theorem plusF_ok {u v : Int × Int} (hu : Okf (some u)) (hv : Okf (some v)) : Oku (some (plusF u v)) ∧ u.2 * v.2 ≠ 0 ∧ (u.2 * v.2).natAbs < 2 ^ 90 ∧ bitOk u.1 v.2 = true ∧ bitOk v.1 u.2 = true ∧ bitOk u.2 v.2 = true := by
  obtain ⟨p, q⟩ := u
  obtain ⟨r, s⟩ := v
  obtain ⟨q0, _, p1, q1⟩ := hu p q rfl
  obtain ⟨s0, _, r1, s1⟩ := hv r s rfl
  have b1 := mul_lt_pow (n := 60) (m := 20) p1 (by omega : s.natAbs < 2 ^ 20)
  have b2 := mul_lt_pow (n := 60) (m := 20) r1 (by omega : q.natAbs < 2 ^ 20)
  have b3 := mul_lt_pow (n := 40) (m := 40) (a := q) (b := s) (by omega) (by omega)
  have z : q * s ≠ 0 := Int.mul_ne_zero (by omega) (by omega)
  have f := fr_le (t := p * s + r * q) z
  have g := fr_gcd (t := p * s + r * q) z
  have h := frB_pos (t := p * s + r * q) z
  refine ⟨fun x y e => ?_, z, (show (q * s).natAbs < 2 ^ 90 by omega), bitOk_of (n := 60) (m := 20) p1 (by omega) (by decide), bitOk_of (n := 60) (m := 20) r1 (by omega) (by decide), bitOk_of (n := 40) (m := 40) (by omega) (by omega) (by decide)⟩
  cases e
  exact ⟨h, g, (show (frT (p * s + r * q) (q * s)).natAbs < 2 ^ 90 by omega), (show frB (p * s + r * q) (q * s) < 2 ^ 90 by omega)⟩
theorem ev_plus {u v : Int × Int} (hu : Okf (some u)) (hv : Okf (some v)) : m_plus [fo (some u), fo (some v)] = some ⟨.O, fo (some (plusF u v))⟩ := by
  obtain ⟨_, z, zb, b1, b2, b3⟩ := plusF_ok hu hv
  obtain ⟨p, q⟩ := u
  obtain ⟨r, s⟩ := v
  have ef := ev_fraction (t := p * s + r * q) z zb (by decide)
  simp only at b1 b2 b3 ef
  simp [m_plus, fnSem, b_plus, fo, b1, b2, b3, ef, plusF]
theorem ev_is_less {u v : Int × Int} (hu : Oku (some u)) (hv : Oku (some v)) : m_is_less [fo (some u), fo (some v)] = some ⟨.O, .bl (lessF u v)⟩ := by
  obtain ⟨p, q⟩ := u
  obtain ⟨r, s⟩ := v
  obtain ⟨q0, _, p1, q1⟩ := hu p q rfl
  obtain ⟨s0, _, r1, s1⟩ := hv r s rfl
  have b1 : bitOk p s = true := bitOk_of (n := 90) (m := 90) p1 (by omega) (by decide)
  have b2 : bitOk r q = true := bitOk_of (n := 90) (m := 90) r1 (by omega) (by decide)
  simp [m_is_less, fnSem, b_is_less, fo, b1, b2, lessF]
theorem ev_lesser {x y : Sz} (hx : Oku x) (hy : Oku y) : m_lesser [fo x, fo y] = some ⟨.O, fo (bst x y)⟩ := by
  cases x with
  | none =>
    cases y with
    | none => simp [m_lesser, fnSem, b_lesser, fo, bst]
    | some y => obtain ⟨r, s⟩ := y; simp [m_lesser, fnSem, b_lesser, fo, bst]
  | some x =>
    cases y with
    | none => obtain ⟨r, s⟩ := x; simp [m_lesser, fnSem, b_lesser, fo, bst]
    | some y =>
      have e := ev_is_less hy hx
      obtain ⟨p, q⟩ := x
      obtain ⟨r, s⟩ := y
      simp only [fo] at e
      by_cases h : lessF (r, s) (p, q) = true
      · simp [m_lesser, fnSem, b_lesser, fo, bst, e, h]
      · simp [m_lesser, fnSem, b_lesser, fo, bst, e, h]
end Tr
namespace Tr
open PySem L2
theorem con_ok {L M : List Sz} (hL : Szs L) (hM : Szs M) {k i : Nat} : Oku (con L M k i) := by
  unfold con
  split
  · split
    · rename_i u v e1 e2
      exact (plusF_ok (hL.1 _ (List.mem_of_getElem? e1)) (hM.1 _ (List.mem_of_getElem? e2))).1
    · exact oku_none
  · exact oku_none
theorem bst_ok {x y : Sz} (hx : Oku x) (hy : Oku y) : Oku (bst x y) := by
  cases x with
  | none => exact hy
  | some a =>
    cases y with
    | none => exact hx
    | some b =>
      simp only [bst]
      split
      · exact hy
      · exact hx
theorem acc_ok {L M : List Sz} (hL : Szs L) (hM : Szs M) {k : Nat} : ∀ {n : Nat}, Oku (acc L M k n)
  | 0 => oku_none
  | n + 1 => bst_ok (acc_ok hL hM) (con_ok hL hM)
theorem ev_least_at {L M : List Sz} (hL : Szs L) (hM : Szs M) {k : Nat} (hk : k ≤ 300) : m_least_at [dl fo L, dl fo M, .int k] = some ⟨.O, fo (acc L M k L.length)⟩ := by
  obtain ⟨-, lL, _⟩ := id hL
  obtain ⟨-, lM, _⟩ := id hM
  have sn : small (L.length : Int) = true := small_of (by omega)
  obtain ⟨ρ', e, x4, rfl⟩ := sFor_up0 (src := iRange1 (sCons (sApp opLen (sCons (sVar 0) sNil)) sNil)) (g := sGName 4) (b := w_least_at_1) (n := L.length)
    (ρ := [some ⟨.F, false, dl fo L⟩, some ⟨.F, false, dl fo M⟩, some ⟨.O, false, .int (k : Int)⟩, some ⟨.O, false, .non⟩, none])
    (fun j ρ => ∃ x4, ρ = [some ⟨.F, false, dl fo L⟩, some ⟨.F, false, dl fo M⟩, some ⟨.O, false, .int (k : Int)⟩, some ⟨.O, false, fo (acc L M k j)⟩, x4])
    (by simp [sn]; rfl) ⟨none, by simp [acc, fo]⟩ (by
      rintro j ρ hj ⟨x4, rfl⟩
      obtain ⟨x, hx⟩ : ∃ x, L[j]? = some x := ⟨_, List.getElem?_eq_getElem hj⟩
      have ei : ∀ m p, opIdx [⟨m, dl fo L⟩, ⟨p, .int (j : Int)⟩] = some ⟨.O, fo x⟩ := fun m p => idx_fo hx
      rw [acc]
      simp only [w_least_at_1]
      by_cases c1 : j ≤ k
      · have c1' : (0 : Int) ≤ (k : Int) - j := by omega
        have ck : (k : Int) - j = ((k - j : Nat) : Int) := by omega
        by_cases c2 : k - j < M.length
        · obtain ⟨y, hy⟩ : ∃ y, M[k - j]? = some y := ⟨_, List.getElem?_eq_getElem c2⟩
          have c2' : ((k - j : Nat) : Int) < M.length := by omega
          have ey : ∀ m p, opIdx [⟨m, dl fo M⟩, ⟨p, .int ((k - j : Nat) : Int)⟩] = some ⟨.O, fo y⟩ := fun m p => idx_fo hy
          cases x with
          | none =>
            have cn : con L M k j = none := by simp [con, c1, hx]
            rw [cn, bst_none]
            simp [ck, c2', ei, fo]
          | some u =>
            cases y with
            | none =>
              have cn : con L M k j = none := by simp [con, c1, hx, hy]
              rw [cn, bst_none]
              obtain ⟨p, q⟩ := u
              simp [ck, c2', ei, ey, fo]
            | some v =>
              have cn : con L M k j = some (plusF u v) := by simp [con, c1, hx, hy]
              have ou := hL.1 _ (List.mem_of_getElem? hx)
              have ov := hM.1 _ (List.mem_of_getElem? hy)
              have ep := ev_plus ou ov
              have el := ev_lesser (x := acc L M k j) (y := some (plusF u v)) (acc_ok hL hM) (plusF_ok ou ov).1
              rw [cn]
              have n1 : (fo (some u)).isNon = false := rfl
              have n2 : (fo (some v)).isNon = false := rfl
              generalize acc L M k j = A at *
              generalize hf : plusF u v = f at *
              simp [ck, c2', ei, ey, n1, n2, ep, el]
        · have cn : con L M k j = none := by
            have : M[k - j]? = none := List.getElem?_eq_none (by omega)
            simp [con, c1, this]
          have c2' : ¬ ((k - j : Nat) : Int) < M.length := by omega
          rw [cn, bst_none]
          simp [ck, c2']
      · have cn : con L M k j = none := by simp [con, c1]
        have c1' : ¬ (0 : Int) ≤ (k : Int) - j := by omega
        rw [cn, bst_none]
        have c1'' : ¬ (j : Int) ≤ k := by omega
        simp [c1', c1'', c1])
  have e : lp_least_at_1 _ = _ := e
  simp only [m_least_at, fnSem, b_least_at]
  simp [e]
end Tr
namespace Tr
open PySem L2
theorem ev_joined {L M : List Sz} (hL : Szs L) (hM : Szs M) : m_joined [dl fo L, dl fo M] = some ⟨.O, dl fo (jn L M)⟩ := by
  obtain ⟨-, lL, l1⟩ := id hL
  obtain ⟨-, lM, m1⟩ := id hM
  obtain ⟨N, hN⟩ : ∃ N : Nat, N = L.length + M.length - 1 := ⟨_, rfl⟩
  have eN : (L.length : Int) + M.length - 1 = (N : Int) := by omega
  have sn : small (N : Int) = true := small_of (by omega)
  have hc : lc_joined_1 [some ⟨.F, false, dl fo L⟩, some ⟨.F, false, dl fo M⟩, none] = some (⟨.O, dl fo (jn L M)⟩, [some ⟨.F, false, dl fo L⟩, some ⟨.F, false, dl fo M⟩, none]) := by
    rw [jn, ← hN]
    exact sLc_dl (f := fun k : Nat => D.int (k : Int)) (h := fo) (xs := List.range N) (fun k => [some ⟨.F, false, dl fo L⟩, some ⟨.F, false, dl fo M⟩, some ⟨.O, false, .int (k : Int)⟩]) (fun k => acc L M k L.length)
      (by simp [eN, sn, up_dl]) (by simpa using sizeN (show N ≤ 1000 by omega)) (by simp [hide, view1, List.mapIdx_cons]) (by simp [hide, view1, wipeE, List.mapIdx_cons]) (fun k hk => by
        have := List.mem_range.mp hk
        simp [ev_least_at hL hM (k := k) (by omega)])
  simp [m_joined, fnSem, b_joined, hc]
end Tr
namespace Tr
open PySem L2
abbrev Lt (u v : Int × Int) : Prop := u.1 * v.2 < v.1 * u.2
theorem lt_trans' {v a b : Int × Int} (hv : 0 < v.2) (ha : 0 < a.2) (hb : 0 < b.2) (h1 : ¬ Lt v a) (h2 : Lt b a) : ¬ Lt v b := by
  intro h
  obtain ⟨v1, v2⟩ := v
  obtain ⟨a1, a2⟩ := a
  obtain ⟨b1, b2⟩ := b
  simp only [Lt] at *
  have e1 := Int.mul_lt_mul_of_pos_right h ha
  have e2 := Int.mul_lt_mul_of_pos_right h2 hv
  have e3 := Int.mul_le_mul_of_nonneg_right (Int.not_lt.mp h1) (Int.le_of_lt hb)
  have x1 : b1 * v2 * a2 = b1 * a2 * v2 := by rw [Int.mul_assoc, Int.mul_comm v2, Int.mul_assoc]
  have x2 : a1 * b2 * v2 = a1 * v2 * b2 := by rw [Int.mul_assoc, Int.mul_comm b2, Int.mul_assoc]
  have x3 : v1 * b2 * a2 = v1 * a2 * b2 := by rw [Int.mul_assoc, Int.mul_comm b2, Int.mul_assoc]
  omega
theorem acc_min {L M : List Sz} (hL : Szs L) (hM : Szs M) {k : Nat} : ∀ n : Nat, (acc L M k n = none ∧ ∀ i, i < n → con L M k i = none) ∨ (∃ a, acc L M k n = some a ∧ (∃ i, i < n ∧ con L M k i = some a) ∧ ∀ i, i < n → ∀ v, con L M k i = some v → ¬ Lt v a)
  | 0 => .inl ⟨rfl, fun i h => by omega⟩
  | n + 1 => by
    have okc : ∀ i v, con L M k i = some v → 0 < v.2 := fun i v e => by
      obtain ⟨p, q⟩ := v
      exact ((e ▸ con_ok hL hM (k := k) (i := i)) p q rfl).1
    rw [acc]
    rcases acc_min hL hM n with ⟨e, h⟩ | ⟨a, e, ⟨i0, hi0, ei0⟩, h⟩
    · rw [e]
      cases hc : con L M k n with
      | none =>
        refine .inl ⟨rfl, fun i hi => ?_⟩
        by_cases q : i = n
        · rw [q]; exact hc
        · exact h i (by omega)
      | some b =>
        refine .inr ⟨b, rfl, ⟨n, by omega, hc⟩, fun i hi v hv => ?_⟩
        by_cases q : i = n
        · rw [q, hc] at hv
          cases hv
          exact Int.lt_irrefl _
        · rw [h i (by omega)] at hv; cases hv
    · rw [e]
      cases hc : con L M k n with
      | none =>
        refine .inr ⟨a, rfl, ⟨i0, by omega, ei0⟩, fun i hi v hv => ?_⟩
        by_cases q : i = n
        · rw [q, hc] at hv; cases hv
        · exact h i (by omega) v hv
      | some b =>
        by_cases q : Lt b a
        · refine .inr ⟨b, by show (if lessF b a then some b else some a) = _; rw [if_pos (by simpa [lessF] using q)], ⟨n, by omega, hc⟩, fun i hi v hv => ?_⟩
          by_cases z : i = n
          · rw [z, hc] at hv
            cases hv
            exact Int.lt_irrefl _
          · exact lt_trans' (okc i v hv) (okc i0 a ei0) (okc n b hc) (h i (by omega) v hv) q
        · refine .inr ⟨a, by show (if lessF b a then some b else some a) = _; rw [if_neg (by simpa [lessF] using q)], ⟨i0, by omega, ei0⟩, fun i hi v hv => ?_⟩
          by_cases z : i = n
          · rw [z, hc] at hv
            cases hv
            exact q
          · exact h i (by omega) v hv
end Tr
namespace Tr
open PySem L2
def mns (u v : Int × Int) : Int × Int := frP (u.1 * v.2 - v.1 * u.2) (u.2 * v.2)
def slp (u v : Int × Int) (d : Int) : Int × Int := frP (mns u v).1 ((mns u v).2 * d)
theorem okf_low {u : Int × Int} (h : Okf (some u)) : Low u := ⟨(h u.1 u.2 rfl).1, (h u.1 u.2 rfl).2.1⟩
theorem mns_ok {u v : Int × Int} (hu : Okf (some u)) (hv : Okf (some v)) : Oku (some (mns u v)) ∧ u.2 * v.2 ≠ 0 ∧ (u.2 * v.2).natAbs < 2 ^ 90 ∧ bitOk u.1 v.2 = true ∧ bitOk v.1 u.2 = true ∧ bitOk u.2 v.2 = true := by
  obtain ⟨p, q⟩ := u
  obtain ⟨r, s⟩ := v
  obtain ⟨q0, _, p1, q1⟩ := hu p q rfl
  obtain ⟨s0, _, r1, s1⟩ := hv r s rfl
  have b1 : (p * s).natAbs < 2 ^ 80 := mul_lt_pow (n := 60) (m := 20) p1 (by omega)
  have b2 : (r * q).natAbs < 2 ^ 80 := mul_lt_pow (n := 60) (m := 20) r1 (by omega)
  have b3 : (q * s).natAbs < 2 ^ 80 := mul_lt_pow (n := 40) (m := 40) (by omega) (by omega)
  have z : q * s ≠ 0 := Int.mul_ne_zero (by omega) (by omega)
  have f := fr_le (t := p * s - r * q) z
  have g := fr_gcd (t := p * s - r * q) z
  have h := frB_pos (t := p * s - r * q) z
  refine ⟨fun x y e => ?_, z, (show (q * s).natAbs < 2 ^ 90 by omega), bitOk_of (n := 60) (m := 20) p1 (by omega) (by decide), bitOk_of (n := 60) (m := 20) r1 (by omega) (by decide), bitOk_of (n := 40) (m := 40) (by omega) (by omega) (by decide)⟩
  cases e
  exact ⟨h, g, (show (frT (p * s - r * q) (q * s)).natAbs < 2 ^ 90 by omega), (show frB (p * s - r * q) (q * s) < 2 ^ 90 by omega)⟩
theorem ev_minus {u v : Int × Int} (hu : Okf (some u)) (hv : Okf (some v)) : m_minus [fo (some u), fo (some v)] = some ⟨.O, fo (some (mns u v))⟩ := by
  obtain ⟨_, z, zb, b1, b2, b3⟩ := mns_ok hu hv
  obtain ⟨p, q⟩ := u
  obtain ⟨r, s⟩ := v
  have ef := ev_fraction (t := p * s - r * q) z zb (by decide)
  simp only at b1 b2 b3 ef
  simp [m_minus, fnSem, b_minus, fo, b1, b2, b3, ef, mns, frP]
theorem val_mns {u v : Int × Int} (hu : Okf (some u)) (hv : Okf (some v)) : val (mns u v) = val u - val v := by
  have z := (mns_ok hu hv).2.1
  rw [mns, val_frP z]
  obtain ⟨p, q⟩ := u
  obtain ⟨r, s⟩ := v
  have q0 := cast_pos (okf_low hu).1
  have s0 := cast_pos (okf_low hv).1
  simp only [val] at *
  rw [Rat.intCast_sub, Rat.intCast_mul, Rat.intCast_mul, Rat.intCast_mul]
  grind
/-- of the most digits -/
def Okw (u : Int × Int) : Prop := Low u ∧ u.1.natAbs < 2 ^ 90 ∧ u.2 < 2 ^ 120
theorem slp_ok {u v : Int × Int} (hu : Okf (some u)) (hv : Okf (some v)) {d : Int} (h0 : 0 < d) (h1 : d < 1000) : Okw (slp u v d) ∧ val (slp u v d) = (val u - val v) / d := by
  obtain ⟨o, _⟩ := mns_ok hu hv
  have e := val_mns hu hv
  unfold slp
  generalize mns u v = m at *
  obtain ⟨a, b⟩ := m
  obtain ⟨b0, _, a1, b1⟩ := o a b rfl
  have z : b * d ≠ 0 := Int.mul_ne_zero (by omega) (by omega)
  have zz : (b * d).natAbs < 2 ^ 100 := mul_lt_pow (n := 90) (m := 10) (by omega) (by omega)
  have f := fr_le (t := a) z
  refine ⟨⟨low_frP z, (show (frT a (b * d)).natAbs < 2 ^ 90 by omega), (show frB a (b * d) < 2 ^ 120 by omega)⟩, ?_⟩
  show val (frP a (b * d)) = _
  rw [val_frP z, ← e]
  have bp := cast_pos b0
  have dp := cast_pos h0
  simp only [val]
  rw [Rat.intCast_mul]
  grind
theorem ev_slope {L : List Sz} {s t : Nat} {u v : Int × Int} (hu : Okf (some u)) (hv : Okf (some v)) (et : L[t]? = some (some u)) (es : L[s]? = some (some v)) (h : s < t) (ht : t < 900) :
    m_slope_between [dl fo L, .int s, .int t] = some ⟨.O, fo (some (slp u v ((t : Int) - s)))⟩ := by
  have em := ev_minus hu hv
  obtain ⟨o, _⟩ := mns_ok hu hv
  have i1 : ∀ m p, opIdx [⟨m, dl fo L⟩, ⟨p, .int (t : Int)⟩] = some ⟨.O, fo (some u)⟩ := fun m p => idx_fo et
  have i2 : ∀ m p, opIdx [⟨m, dl fo L⟩, ⟨p, .int (s : Int)⟩] = some ⟨.O, fo (some v)⟩ := fun m p => idx_fo es
  have ef := ev_fraction (t := (t : Int) - s) (b := 1) (n := 10) (by decide) (by decide) (by decide)
  obtain ⟨f1, f2⟩ := fr_id (p := (t : Int) - s) (q := 1) (by decide) (by simp)
  rw [f1, f2] at ef
  have eo : m_over [fo (some (mns u v)), .tup [.int ((t : Int) - s), .int 1]] = some ⟨.O, fo (some (slp u v ((t : Int) - s)))⟩ := by
    unfold slp
    generalize mns u v = m at *
    obtain ⟨a, b⟩ := m
    obtain ⟨b0, _, a1, b1⟩ := o a b rfl
    have z : b * ((t : Int) - s) ≠ 0 := Int.mul_ne_zero (by omega) (by omega)
    have zz : (b * ((t : Int) - s)).natAbs < 2 ^ 100 := mul_lt_pow (n := 90) (m := 10) (by omega) (by omega)
    have ef := ev_fraction (t := a) z zz (by decide)
    have b3 : bitOk b ((t : Int) - s) = true := bitOk_of (n := 90) (m := 10) (by omega) (by omega) (by decide)
    have b4 : bitOk a 1 = true := bitOk_of (n := 90) (m := 10) (by omega) (by omega) (by decide)
    simp [m_over, fnSem, b_over, fo, b3, b4, ef, frP]
  simp only [m_slope_between, fnSem, b_slope_between]
  simp [i1, i2, em, ef, eo]
end Tr
namespace Tr
open PySem L2
theorem ev_less {a b : Int × Int} (ha : Okw a) (hb : Okw b) : m_is_less [fo (some a), fo (some b)] = some ⟨.O, .bl (decide (val a < val b))⟩ := by
  obtain ⟨la, a1, a2⟩ := ha
  obtain ⟨lb, b1, b2⟩ := hb
  have e := val_lt la.1 lb.1
  obtain ⟨p, q⟩ := a
  obtain ⟨r, s⟩ := b
  have b1 : bitOk p s = true := bitOk_of (n := 90) (m := 120) a1 (by have := lb.1; simp only at this b2; omega) (by decide)
  have b2 : bitOk r q = true := bitOk_of (n := 90) (m := 120) (by assumption) (by have := la.1; simp only at this a2; omega) (by decide)
  simp only at e
  simp [m_is_less, fnSem, b_is_less, fo, b1, b2, e]
/-- the best corner behind s, of the places ahead of B -/
def Best (L : List Sz) (s : Nat) (v : Int × Int) (B : Nat) : Option (Nat × (Int × Int)) → Prop
  | none => ∀ k w, s < k → k < B → L[k]? ≠ some (some w)
  | some (t, σ) => s < t ∧ t < B ∧ (∃ u, L[t]? = some (some u) ∧ σ = slp u v ((t : Int) - s)) ∧ ∀ (k : Nat) w, s < k → k < B → L[k]? = some (some w) → val σ ≤ val (slp w v ((k : Int) - s)) ∧ (t < k → val σ < val (slp w v ((k : Int) - s)))
def cd : Option (Nat × (Int × Int)) → D
  | none => .non
  | some (t, _) => .int t
@[simp] theorem cd_flat (c : Option (Nat × (Int × Int))) : (cd c).flat = true := by
  cases c with
  | none => rfl
  | some c => rfl
theorem best_skip {L : List Sz} {s : Nat} {v : Int × Int} {B : Nat} (hx : L[B]? = some none) : ∀ {c : Option (Nat × (Int × Int))}, Best L s v B c → Best L s v (B + 1) c
  | none, h => fun k w h1 h2 e => by
    by_cases q : k = B
    · subst q; rw [hx] at e; cases e
    · exact h k w h1 (by omega) e
  | some (t, σ), ⟨a, b, c, h⟩ => ⟨a, by omega, c, fun k w h1 h2 e => by
    by_cases q : k = B
    · subst q; rw [hx] at e; cases e
    · exact h k w h1 (by omega) e⟩
theorem best_new {L : List Sz} {s : Nat} {v u : Int × Int} {B : Nat} (hx : L[B]? = some (some u)) (hs : s < B) (h : Best L s v B none) : Best L s v (B + 1) (some (B, slp u v ((B : Int) - s))) :=
  ⟨hs, by omega, ⟨u, hx, rfl⟩, fun k w h1 h2 e => by
    by_cases q : k = B
    · subst q
      rw [hx] at e
      cases e
      exact ⟨Rat.le_refl, fun z => by omega⟩
    · exact absurd e (h k w h1 (by omega))⟩
theorem best_less {L : List Sz} {s t : Nat} {v u σ : Int × Int} {B : Nat} (hx : L[B]? = some (some u)) (hs : s < B) (hl : ¬ val σ < val (slp u v ((B : Int) - s))) (h : Best L s v B (some (t, σ))) : Best L s v (B + 1) (some (B, slp u v ((B : Int) - s))) := by
  obtain ⟨a, b, c, h⟩ := h
  refine ⟨hs, by omega, ⟨u, hx, rfl⟩, fun k w h1 h2 e => ?_⟩
  by_cases q : k = B
  · subst q
    rw [hx] at e
    cases e
    exact ⟨Rat.le_refl, fun z => by omega⟩
  · have := (h k w h1 (by omega) e).1
    exact ⟨by grind, fun z => by omega⟩
theorem best_keep {L : List Sz} {s t : Nat} {v u σ : Int × Int} {B : Nat} (hx : L[B]? = some (some u)) (hl : val σ < val (slp u v ((B : Int) - s))) (h : Best L s v B (some (t, σ))) : Best L s v (B + 1) (some (t, σ)) := by
  obtain ⟨a, b, c, h⟩ := h
  refine ⟨a, by omega, c, fun k w h1 h2 e => ?_⟩
  by_cases q : k = B
  · subst q
    rw [hx] at e
    cases e
    exact ⟨by grind, fun _ => hl⟩
  · exact h k w h1 (by omega) e
theorem ev_next_corner {L : List Sz} (hL : Szs L) {s : Nat} {v : Int × Int} (es : L[s]? = some (some v)) : ∃ c, Best L s v L.length c ∧ m_next_corner [dl fo L, .int s] = some ⟨.O, .tup [cd c, fo (c.map (·.2))]⟩ := by
  obtain ⟨hf, lL, l1⟩ := id hL
  have sl := lt_of_get es
  have ov := hf _ (List.mem_of_getElem? es)
  have s1 : small ((s : Int) + 1) = true := small_of (by omega)
  have s2 : small (L.length : Int) = true := small_of (by omega)
  have en : ((L.length : Int) - ((s : Int) + 1)).toNat = L.length - (s + 1) := by omega
  obtain ⟨ρ', e, x4, x5, c, rfl, hc⟩ := sFor_up (src := iRange2 (sCons (sApp2 opAdd (sVar 1) (sCon (.int 1))) (sCons (sApp opLen (sCons (sVar 0) sNil)) sNil))) (g := sGName 4) (b := w_next_corner_1) (n := L.length - (s + 1)) (lo := (s : Int) + 1)
    (ρ := [some ⟨.F, false, dl fo L⟩, some ⟨.O, false, .int (s : Int)⟩, some ⟨.O, false, .non⟩, some ⟨.O, false, .non⟩, none, none])
    (fun j ρ => ∃ x4 x5 c, ρ = [some ⟨.F, false, dl fo L⟩, some ⟨.O, false, .int (s : Int)⟩, some ⟨.O, false, cd c⟩, some ⟨.O, false, fo (c.map (·.2))⟩, x4, x5] ∧ Best L s v (s + 1 + j) c)
    (by simp [s1, s2, en]; rfl) ⟨none, none, none, by simp [cd, fo], fun k w h1 h2 => by omega⟩ (by
      rintro j ρ hj ⟨x4, x5, c, rfl, hc⟩
      have tl : s + 1 + j < L.length := by omega
      obtain ⟨x, hx⟩ : ∃ x, L[s + 1 + j]? = some x := ⟨_, List.getElem?_eq_getElem tl⟩
      have ei : ∀ m p, opIdx [⟨m, dl fo L⟩, ⟨p, .int ((s : Int) + 1 + j)⟩] = some ⟨.O, fo x⟩ := fun m p => by
        rw [show (s : Int) + 1 + j = ((s + 1 + j : Nat) : Int) by omega]; exact idx_fo hx
      simp only [w_next_corner_1]
      have cB : ((s + 1 + j : Nat) : Int) = (s : Int) + 1 + j := by omega
      have n0 : (fo none).isNon = true := rfl
      have n1 : ∀ u, (fo (some u)).isNon = false := fun _ => rfl
      cases x with
      | none =>
        simp [ei, n0]
        exact ⟨_, _, c, ⟨rfl, rfl, rfl, rfl⟩, best_skip hx hc⟩
      | some u =>
        have ou := hf _ (List.mem_of_getElem? hx)
        have esl := ev_slope ou ov hx es (by omega) (by omega)
        obtain ⟨ow, _⟩ := slp_ok ou ov (d := ((s + 1 + j : Nat) : Int) - s) (by omega) (by omega)
        cases c with
        | none =>
          have B := best_new hx (by omega) hc
          rw [cB] at esl ow B
          simp [ei, n1, n0, esl]
          exact ⟨_, _, some (s + 1 + j, _), ⟨by simp [cd], rfl, rfl, rfl⟩, B⟩
        | some c =>
          obtain ⟨t, σ⟩ := c
          have oσ : Okw σ := by
            obtain ⟨a, b, ⟨u', eu, rfl⟩, _⟩ := hc
            exact (slp_ok (hf _ (List.mem_of_getElem? eu)) ov (by omega) (by omega)).1
          have el := ev_less oσ ow
          by_cases q : val σ < val (slp u v (((s + 1 + j : Nat) : Int) - s))
          · have B := best_keep hx q hc
            rw [cB] at esl ow el q
            simp [ei, n1, n0, esl, el, q]
            exact ⟨_, _, some (t, σ), ⟨rfl, rfl, rfl, rfl⟩, B⟩
          · have B := best_less hx (by omega) q hc
            rw [cB] at esl ow el q B
            simp [ei, n1, n0, esl, el, q]
            exact ⟨_, _, some (s + 1 + j, _), ⟨by simp [cd], rfl, rfl, rfl⟩, B⟩)
  have e : lp_next_corner_1 _ = _ := e
  refine ⟨c, ?_, ?_⟩
  · rw [show s + 1 + (L.length - (s + 1)) = L.length by omega] at hc
    exact hc
  · simp only [m_next_corner, fnSem, b_next_corner]
    simp [e]
end Tr
namespace Tr
open PySem L2
abbrev Sd := Nat × Nat × (Int × Int)
def sd (x : Sd) : D := .tup [.int x.1, .int x.2.1, .tup [.int x.2.2.1, .int x.2.2.2]]
@[simp] theorem sd_flat (x : Sd) : (sd x).flat = true := rfl
def Chain (L : List Sz) : Nat → List Sd → Prop
  | s, [] => s + 1 = L.length
  | s, (a, t, σ) :: r => a = s ∧ (∃ v, L[s]? = some (some v) ∧ Best L s v L.length (some (t, σ))) ∧ Chain L t r
theorem sides_loop {L : List Sz} (hL : Szs L) {z : Int × Int} (hz : L[L.length - 1]? = some (some z)) : ∀ (k s : Nat) (acc : List Sd) (x3 x4 : Option Slot), L.length - 1 - s ≤ k → acc.length ≤ s → (∃ v, L[s]? = some (some v)) → ∃ rest x3' x4', Chain L s rest ∧
    lp_sides_1 [some ⟨.F, false, dl fo L⟩, some ⟨.O, false, dl sd acc⟩, some ⟨.O, false, .int (s : Int)⟩, x3, x4] = some (.nx [some ⟨.F, false, dl fo L⟩, some ⟨.O, false, dl sd (acc ++ rest)⟩, some ⟨.O, false, .int ((L.length - 1 : Nat) : Int)⟩, x3', x4']) := by
  intro k
  obtain ⟨hf, lL, l1⟩ := id hL
  induction k with
  | zero =>
    rintro s acc x3 x4 hk ha ⟨v, hv⟩
    have sl := lt_of_get hv
    have e : s = L.length - 1 := by omega
    refine ⟨[], x3, x4, by show s + 1 = L.length; omega, ?_⟩
    have q : ¬ ((s : Int) < (L.length : Int) - 1) := by omega
    rw [← e, List.append_nil]
    exact while_false (by simp [q])
  | succ k ih =>
    rintro s acc x3 x4 hk ha ⟨v, hv⟩
    have sl := lt_of_get hv
    by_cases q : s + 1 = L.length
    · refine ⟨[], x3, x4, q, ?_⟩
      have q' : ¬ ((s : Int) < (L.length : Int) - 1) := by omega
      rw [show L.length - 1 = s by omega, List.append_nil]
      exact while_false (by simp [q'])
    · obtain ⟨c, hc, ec⟩ := ev_next_corner hL hv
      cases c with
      | none => exact absurd hz (hc (L.length - 1) z (by omega) (by omega))
      | some c =>
        obtain ⟨t, σ⟩ := c
        have hc' := hc
        obtain ⟨t1, t2, ⟨u, hu, eσ⟩, _⟩ := hc'
        obtain ⟨rest, x3', x4', hr, er⟩ := ih t (acc ++ [(s, t, σ)]) (some ⟨.O, false, .int (t : Int)⟩) (some ⟨.O, false, .tup [.int σ.1, .int σ.2]⟩) (by omega) (by simp; omega) ⟨u, hu⟩
        refine ⟨(s, t, σ) :: rest, x3', x4', ⟨rfl, ⟨v, hv, hc⟩, hr⟩, ?_⟩
        have q' : (s : Int) < (L.length : Int) - 1 := by omega
        have ea := apnd_O (h := sd) (lk := false) (x := (s, t, σ)) (xs := acc) (ok_of (by have := sizeLine_big; omega))
        rw [show acc ++ (s, t, σ) :: rest = (acc ++ [(s, t, σ)]) ++ rest by simp, ← er, lp_sides_1]
        refine while_step (ρ1 := [some ⟨.F, false, dl fo L⟩, some ⟨.O, false, dl sd acc⟩, some ⟨.O, false, .int (s : Int)⟩, x3, x4]) (by simp [q']) ?_
        simp only [w_sides_1]
        simp only [cd, Option.map_some, fo] at ec
        simp only [sd] at ea
        simp [ec, ea, setSlot]
end Tr
namespace Tr
open PySem L2
/-- the first place with a size -/
def First (L : List Sz) (f : Nat) : Prop := (∃ u, L[f]? = some (some u)) ∧ ∀ i, i < f → L[i]? = some none
theorem first_ex {L : List Sz} {z : Int × Int} : ∀ {k : Nat}, L[k]? = some (some z) → ∃ f, f ≤ k ∧ First L f := by
  intro k
  induction k using Nat.strongRecOn generalizing z with
  | _ k ih =>
    intro h
    by_cases q : ∃ i w, i < k ∧ L[i]? = some (some w)
    · obtain ⟨i, w, hi, hw⟩ := q
      obtain ⟨f, hf, h2⟩ := ih i hi hw
      exact ⟨f, by omega, h2⟩
    · refine ⟨k, Nat.le_refl _, ⟨z, h⟩, fun i hi => ?_⟩
      have kl := lt_of_get h
      obtain ⟨x, hx⟩ : ∃ x, L[i]? = some x := ⟨_, List.getElem?_eq_getElem (by omega)⟩
      cases x with
      | none => exact hx
      | some w => exact absurd ⟨i, w, hi, hx⟩ q
def eP : D → Bool
  | .tup [_, d] => !d.isNon
  | _ => false
def eF : D → D
  | .tup [d, _] => d
  | d => d
theorem enum_mem {L : List Sz} : ∀ {n : Nat} {d : D}, d ∈ enumL n (L.map fo) → ∃ (i : Nat) (x : Sz), d = .tup [.int i, fo x] := by
  induction L with
  | nil => intro n d h; simp [enumL] at h
  | cons x L ih =>
    intro n d h
    simp only [List.map_cons, enumL, List.mem_cons] at h
    rcases h with rfl | h
    · exact ⟨n, x, rfl⟩
    · exact ih h
theorem enum_len {L : List D} : ∀ n, (enumL n L).length = L.length := by
  induction L with
  | nil => intro n; rfl
  | cons x L ih => intro n; simp [enumL, ih]
theorem enum_first : ∀ {L : List Sz} {f : Nat}, First L f → ∀ n : Nat, ∃ r, ((enumL n (L.map fo)).filter eP).map eF = .int ((n + f : Nat) : Int) :: r
  | [], f, ⟨⟨u, h⟩, _⟩, n => by simp at h
  | x :: L, 0, ⟨⟨u, h⟩, _⟩, n => by
    simp at h
    subst h
    have e : eP (.tup [.int n, fo (some u)]) = true := rfl
    refine ⟨((enumL (n + 1) (L.map fo)).filter eP).map eF, ?_⟩
    simp only [List.map_cons, enumL]
    rw [List.filter_cons_of_pos e]
    rfl
  | x :: L, f + 1, ⟨⟨u, h⟩, h2⟩, n => by
    have x0 := h2 0 (by omega)
    simp at x0
    subst x0
    have e : ¬ eP (.tup [.int n, fo none]) = true := by simp [eP, fo]
    obtain ⟨r, hr⟩ := enum_first (L := L) (f := f) ⟨⟨u, by simpa using h⟩, fun i hi => by simpa using h2 (i + 1) (by omega)⟩ (n + 1)
    refine ⟨r, ?_⟩
    simp only [List.map_cons, enumL]
    rw [List.filter_cons_of_neg e, hr]
    congr 2
    omega
theorem idx_head {m p : Mode} {a : Int} {r : List D} : opIdx [⟨m, .lst (.int a :: r)⟩, ⟨p, .int 0⟩] = some ⟨.O, .int a⟩ := by simp [opIdx, atI, ixN]
theorem ev_first_place {L : List Sz} {f : Nat} (h : First L f) (hl : L.length ≤ 100) : m_first_place [dl fo L] = some ⟨.O, .int (f : Int)⟩ := by
  obtain ⟨r, hr⟩ := enum_first h 0
  have q := sLc_gen (ρ := [some ⟨.F, false, dl fo L⟩, none, none]) (ls := []) (vs := [1, 2]) (src := iEnu (sCons (sVar 0) sNil)) (g := sGTup (sGCons (sGName 1) (sGCons (sGName 2) sGNil))) (t := sTest (sApp2 opNotN (sVar 2) (sCon .non))) (f := sVar 1) (ds := enumL 0 (L.map fo))
    (fun d => match d with | .tup [a, b] => [none, some (par a), some (par b)] | _ => []) eP eF (ρ1 := [some ⟨.F, false, dl fo L⟩, none, none])
    (by simp [iEnu, dl]) (by simp) (by rw [enum_len]; simpa using sizeN (show L.length ≤ 1000 by omega))
    (fun d hd => by
      obtain ⟨i, x, rfl⟩ := enum_mem hd
      simp [hide, view1, List.mapIdx_cons, nrm, par, setSlot])
    (fun d hd => by
      obtain ⟨i, x, rfl⟩ := enum_mem hd
      simp [hide, view1, wipeE, List.mapIdx_cons])
    (fun d hd => by
      obtain ⟨i, x, rfl⟩ := enum_mem hd
      cases x with
      | none => rfl
      | some u => simp [par, eP])
    (fun d hd _ => by
      obtain ⟨i, x, rfl⟩ := enum_mem hd
      simp [par, eF])
  have e : lc_first_place_1 [some ⟨.F, false, dl fo L⟩, none, none] = _ := q
  rw [hr] at e
  simp only [m_first_place, fnSem, b_first_place]
  simp [e, idx_head]
theorem ev_sides {L : List Sz} (hL : Szs L) {z : Int × Int} (hz : L[L.length - 1]? = some (some z)) : ∃ (f : Nat) (S : List Sd), First L f ∧ Chain L f S ∧ m_sides [dl fo L] = some ⟨.O, dl sd S⟩ := by
  obtain ⟨f, hf, h⟩ := first_ex hz
  have e1 := ev_first_place h hL.2.1
  obtain ⟨S, x3, x4, hS, e⟩ := sides_loop hL hz L.length f [] none none (by omega) (by simp) h.1
  have e : lp_sides_1 [some ⟨.F, false, dl fo L⟩, some ⟨.O, false, .lst []⟩, some ⟨.O, false, .int (f : Int)⟩, none, none] = some (.nx [some ⟨.F, false, dl fo L⟩, some ⟨.O, false, dl sd S⟩, some ⟨.O, false, .int ((L.length - 1 : Nat) : Int)⟩, x3, x4]) := e
  refine ⟨f, S, h, hS, ?_⟩
  simp only [m_sides, fnSem, b_sides]
  simp [e1, e]
end Tr
namespace Tr
open PySem L2
/-- where a line of a slope lies on sizes: from below, first and last at a and b -/
structure Face (L : List Sz) (τ h : Rat) (a b : Nat) : Prop where
  lo : ∀ (k : Nat) w, L[k]? = some (some w) → h ≤ val w - (k : Rat) * τ
  at1 : ∃ w, L[a]? = some (some w) ∧ val w - (a : Rat) * τ = h
  at2 : ∃ w, L[b]? = some (some w) ∧ val w - (b : Rat) * τ = h
  btw : ∀ (k : Nat) w, L[k]? = some (some w) → val w - (k : Rat) * τ = h → a ≤ k ∧ k ≤ b
theorem Face.uniq {L : List Sz} {τ h h' : Rat} {a b a' b' : Nat} (f : Face L τ h a b) (g : Face L τ h' a' b') : h = h' ∧ a = a' ∧ b = b' := by
  obtain ⟨w, hw, ew⟩ := f.at1
  obtain ⟨x, hx, ex⟩ := f.at2
  obtain ⟨y, hy, ey⟩ := g.at1
  obtain ⟨z, hz, ez⟩ := g.at2
  have h1 := g.lo a w hw
  have h2 := f.lo a' y hy
  have e : h = h' := by grind
  subst e
  have b1 := g.btw a w hw ew
  have b2 := g.btw b x hx ex
  have b3 := f.btw a' y hy ey
  have b4 := f.btw b' z hz ez
  exact ⟨rfl, by omega, by omega⟩
/-- all ahead of a place lie strictly above the line through it -/
def Abv (L : List Sz) (τ : Rat) (s : Nat) (v : Int × Int) : Prop := ∀ (k : Nat) w, k < s → L[k]? = some (some w) → val v - (s : Rat) * τ < val w - (k : Rat) * τ
theorem slp_val {L : List Sz} (hL : Szs L) {s k : Nat} {v w : Int × Int} (hs : L[s]? = some (some v)) (hk : L[k]? = some (some w)) (h : s < k) : val w = val v + ((k : Rat) - (s : Rat)) * val (slp w v ((k : Int) - s)) := by
  have lk := lt_of_get hk
  have l100 := hL.2.1
  have e := (slp_ok (hL.1 _ (List.mem_of_getElem? hk)) (hL.1 _ (List.mem_of_getElem? hs)) (d := (k : Int) - s) (by omega) (by omega)).2
  have ed : (((k : Int) - (s : Int) : Int) : Rat) = (k : Rat) - (s : Rat) := by rw [Rat.intCast_sub, Rat.intCast_natCast, Rat.intCast_natCast]
  rw [ed] at e
  have d0 : (0 : Rat) < (k : Rat) - (s : Rat) := by
    have : ((s : Nat) : Rat) < ((k : Nat) : Rat) := by exact_mod_cast h
    grind
  rw [e]
  grind
/-- a side's line, at its own slope and at greater ones -/
theorem side_abv {L : List Sz} (hL : Szs L) {s t : Nat} {v σ : Int × Int} (hv : L[s]? = some (some v)) (hb : Best L s v L.length (some (t, σ))) (ha : ∀ τ, val σ ≤ τ → Abv L τ s v) :
    ∃ u, L[t]? = some (some u) ∧ val u = val v + ((t : Rat) - (s : Rat)) * val σ ∧ Face L (val σ) (val v - (s : Rat) * val σ) s t ∧ ∀ τ, val σ < τ → Abv L τ t u := by
  obtain ⟨b1, b2, ⟨u, hu, eσ⟩, b4⟩ := hb
  have eu := slp_val hL hv hu b1
  rw [← eσ] at eu
  have pos : ∀ {i j : Nat}, i < j → (0 : Rat) < (j : Rat) - (i : Rat) := fun {i j} h => by
    have : ((i : Nat) : Rat) < ((j : Nat) : Rat) := by exact_mod_cast h
    grind
  have up : ∀ (k : Nat) w, s < k → L[k]? = some (some w) → val v + ((k : Rat) - (s : Rat)) * val σ ≤ val w ∧ (t < k → val v + ((k : Rat) - (s : Rat)) * val σ < val w) := fun k w hk hw => by
    have lk := lt_of_get hw
    obtain ⟨c1, c2⟩ := b4 k w hk lk hw
    have ew := slp_val hL hv hw hk
    have p := pos hk
    constructor
    · have := Rat.mul_le_mul_of_nonneg_left c1 (Rat.le_of_lt p)
      grind
    · intro ht
      have := Rat.mul_lt_mul_of_pos_left (c2 ht) p
      grind
  refine ⟨u, hu, eu, ⟨fun k w hw => ?_, ⟨v, hv, rfl⟩, ⟨u, hu, by grind⟩, fun k w hw e => ?_⟩, fun τ hτ k w hk hw => ?_⟩
  · rcases Nat.lt_trichotomy k s with q | q | q
    · have := ha _ Rat.le_refl k w q hw
      grind
    · subst q
      rw [hv] at hw
      cases hw
      exact Rat.le_refl
    · have := (up k w q hw).1
      grind
  · constructor
    · refine Classical.byContradiction fun q => ?_
      have := ha _ Rat.le_refl k w (by omega) hw
      grind
    · refine Classical.byContradiction fun q => ?_
      have := (up k w (by omega) hw).2 (by omega)
      grind
  · have pt := pos hk
    rcases Nat.lt_trichotomy k s with q | q | q
    · have h1 := ha τ (Rat.le_of_lt hτ) k w q hw
      have := Rat.mul_lt_mul_of_pos_left hτ (pos b1)
      grind
    · subst q
      rw [hv] at hw
      cases hw
      have := Rat.mul_lt_mul_of_pos_left hτ (pos b1)
      grind
    · have h1 := (up k w q hw).1
      have := Rat.mul_lt_mul_of_pos_left hτ pt
      grind
/-- the sides are the faces: at each side, and nowhere else -/
theorem chain_faces {L : List Sz} (hL : Szs L) : ∀ (S : List Sd) (s : Nat) (v : Int × Int) (τ0 : Rat), Chain L s S → L[s]? = some (some v) → (∀ τ, τ0 < τ → Abv L τ s v) → (∀ a t σ r, S = (a, t, σ) :: r → τ0 < val σ) →
    (∀ x ∈ S, τ0 < val x.2.2 ∧ Low x.2.2 ∧ x.1 < x.2.1 ∧ ∃ h, Face L (val x.2.2) h x.1 x.2.1) ∧ S.Pairwise (fun x y => val x.2.2 < val y.2.2) ∧ ∀ τ, τ0 < τ → (∃ x ∈ S, val x.2.2 = τ) ∨ ∃ h a, Face L τ h a a
  | [], s, v, τ0, hC, hv, ha, _ => by
    have hC : s + 1 = L.length := hC
    refine ⟨(fun x hx => nomatch hx), List.Pairwise.nil, fun τ hτ => .inr ⟨_, s, fun k w hw => ?_, ⟨v, hv, rfl⟩, ⟨v, hv, rfl⟩, fun k w hw e => ?_⟩⟩
    · have lk := lt_of_get hw
      by_cases q : k = s
      · subst q
        rw [hv] at hw
        cases hw
        exact Rat.le_refl
      · have := ha τ hτ k w (by omega) hw
        grind
    · have lk := lt_of_get hw
      by_cases q : k = s
      · omega
      · have := ha τ hτ k w (by omega) hw
        grind
  | (a, t, σ) :: r, s, v, τ0, hC, hv, ha, hx => by
    obtain ⟨rfl, ⟨v', hv', hb⟩, hr⟩ := hC
    rw [hv] at hv'
    cases hv'
    have lσ := hx _ _ _ _ rfl
    obtain ⟨u, hu, eu, fc, ab⟩ := side_abv hL hv hb fun τ hτ => ha τ (by grind)
    have b1 := hb.1
    have low : Low σ := by
      obtain ⟨c1, c2, ⟨w, hw, eσ⟩, _⟩ := hb
      have l100 := hL.2.1
      rw [eσ]
      exact (slp_ok (hL.1 _ (List.mem_of_getElem? hw)) (hL.1 _ (List.mem_of_getElem? hv)) (d := (t : Int) - a) (by omega) (by omega)).1.1
    have nx : ∀ a' t' σ' r', r = (a', t', σ') :: r' → val σ < val σ' := fun a' t' σ' r' e => by
      subst e
      obtain ⟨rfl, ⟨u', hu', hb'⟩, _⟩ := hr
      rw [hu] at hu'
      cases hu'
      obtain ⟨c1, c2, ⟨w, hw, eσ⟩, _⟩ := hb'
      obtain ⟨_, _, _, b4⟩ := hb
      have h1 := (b4 t' w (by omega) c2 hw).2 c1
      have e1 := slp_val hL hv hw (by omega)
      have e2 := slp_val hL hu hw c1
      rw [← eσ] at e2
      have p1 : (0 : Rat) < (t' : Rat) - (a : Rat) := by
        have : ((a : Nat) : Rat) < ((t' : Nat) : Rat) := by exact_mod_cast (by omega : a < t')
        grind
      have p2 : (0 : Rat) < (t' : Rat) - (a' : Rat) := by
        have : ((a' : Nat) : Rat) < ((t' : Nat) : Rat) := by exact_mod_cast c1
        grind
      have h2 := Rat.mul_lt_mul_of_pos_left h1 p1
      have h3 : ((t' : Rat) - (a' : Rat)) * val σ < ((t' : Rat) - (a' : Rat)) * val σ' := by grind
      exact Rat.lt_of_mul_lt_mul_left h3 (Rat.le_of_lt p2)
    obtain ⟨i1, i2, i3⟩ := chain_faces hL r t u (val σ) hr hu ab nx
    refine ⟨fun x hx => ?_, List.pairwise_cons.mpr ⟨fun y hy => (i1 y hy).1, i2⟩, fun τ hτ => ?_⟩
    · rcases List.mem_cons.mp hx with rfl | hx
      · exact ⟨lσ, low, b1, _, fc⟩
      · obtain ⟨c1, c2⟩ := i1 x hx
        exact ⟨by grind, c2⟩
    · by_cases q : val σ = τ
      · exact .inl ⟨_, List.mem_cons_self, q⟩
      · by_cases q2 : val σ < τ
        · rcases i3 τ q2 with ⟨x, hx, e⟩ | h
          · exact .inl ⟨x, List.mem_cons_of_mem _ hx, e⟩
          · exact .inr h
        · have lt : τ < val σ := by grind
          have abv : Abv L τ a v := ha τ hτ
          have up : ∀ (k : Nat) w, a < k → L[k]? = some (some w) → val v - (a : Rat) * τ < val w - (k : Rat) * τ := fun k w hk hw => by
            have lk := lt_of_get hw
            have h1 := (hb.2.2.2 k w hk lk hw).1
            have ew := slp_val hL hv hw hk
            have p : (0 : Rat) < (k : Rat) - (a : Rat) := by
              have : ((a : Nat) : Rat) < ((k : Nat) : Rat) := by exact_mod_cast hk
              grind
            have h2 := Rat.mul_le_mul_of_nonneg_left h1 (Rat.le_of_lt p)
            have h3 := Rat.mul_lt_mul_of_pos_left lt p
            grind
          refine .inr ⟨_, a, fun k w hw => ?_, ⟨v, hv, rfl⟩, ⟨v, hv, rfl⟩, fun k w hw e => ?_⟩
          · rcases Nat.lt_trichotomy k a with z | z | z
            · have := abv k w z hw; grind
            · subst z
              rw [hv] at hw
              cases hw
              exact Rat.le_refl
            · have := up k w z hw; grind
          · rcases Nat.lt_trichotomy k a with z | z | z
            · have := abv k w z hw; grind
            · omega
            · have := up k w z hw; grind
/-- a line's sides and faces -/
structure Lns (L : List Sz) (S : List Sd) : Prop where
  mem : ∀ x ∈ S, Low x.2.2 ∧ x.1 < x.2.1 ∧ ∃ h, Face L (val x.2.2) h x.1 x.2.1
  pw : S.Pairwise (fun x y => val x.2.2 < val y.2.2)
  all : ∀ τ : Rat, (∃ x ∈ S, val x.2.2 = τ) ∨ ∃ h a, Face L τ h a a
theorem lns_of {L : List Sz} (hL : Szs L) {f : Nat} {S : List Sd} (hf : First L f) (hC : Chain L f S) : Lns L S := by
  obtain ⟨⟨v, hv⟩, h0⟩ := hf
  have ab : ∀ τ, Abv L τ f v := fun τ k w hk hw => by rw [h0 k hk] at hw; cases hw
  have go : ∀ τ0, (∀ a t σ r, S = (a, t, σ) :: r → τ0 < val σ) → _ := fun τ0 h => chain_faces hL S f v τ0 hC hv (fun τ _ => ab τ) h
  obtain ⟨B, hB⟩ : ∃ B : Rat, ∀ a t σ r, S = (a, t, σ) :: r → B < val σ := by
    match S with
    | [] => exact ⟨0, fun a t σ r e => nomatch e⟩
    | (a, t, σ) :: r => exact ⟨val σ - 1, fun a' t' σ' r' e => by cases e; grind⟩
  obtain ⟨m, p, _⟩ := go B hB
  refine ⟨fun x hx => (m x hx).2, p, fun τ => ?_⟩
  by_cases q : B < τ
  · obtain ⟨_, _, al⟩ := go B hB
    exact al τ q
  · obtain ⟨_, _, al⟩ := go (τ - 1) (fun a t σ r e => by
      have := hB a t σ r e
      grind)
    exact al τ (by grind)
/-- each slope has a face -/
theorem Lns.face {L : List Sz} {S : List Sd} (l : Lns L S) (τ : Rat) : ∃ h a b, Face L τ h a b ∧ a ≤ b := by
  rcases l.all τ with ⟨x, hx, rfl⟩ | ⟨h, a, f⟩
  · obtain ⟨_, lt, h, f⟩ := l.mem x hx
    exact ⟨h, _, _, f, Nat.le_of_lt lt⟩
  · exact ⟨h, a, a, f, Nat.le_refl _⟩
theorem Lns.side {L : List Sz} {S : List Sd} (l : Lns L S) {σ : Int × Int} (lo : Low σ) {h : Rat} {a b : Nat} (f : Face L (val σ) h a b) (ab : a < b) : (a, b, σ) ∈ S := by
  rcases l.all (val σ) with ⟨x, hx, e⟩ | ⟨h', a', f'⟩
  · obtain ⟨l2, lt, h2, f2⟩ := l.mem x hx
    rw [e] at f2
    obtain ⟨_, e1, e2⟩ := f.uniq f2
    have e3 : x.2.2 = σ := val_inj l2 lo e
    have : x = (a, b, σ) := by
      obtain ⟨x1, x2, x3⟩ := x
      simp only at e1 e2 e3
      rw [e1, e2, e3]
    rwa [← this]
  · obtain ⟨_, e1, e2⟩ := f.uniq f'
    omega
end Tr
namespace Tr
open PySem L2
theorem val_plusF {u v : Int × Int} (hu : Okf (some u)) (hv : Okf (some v)) : val (plusF u v) = val u + val v ∧ Low (plusF u v) := by
  have z := (plusF_ok hu hv).2.1
  have e : plusF u v = frP (u.1 * v.2 + v.1 * u.2) (u.2 * v.2) := rfl
  rw [e, val_frP z]
  refine ⟨?_, low_frP z⟩
  obtain ⟨p, q⟩ := u
  obtain ⟨r, s⟩ := v
  have q0 := cast_pos (okf_low hu).1
  have s0 := cast_pos (okf_low hv).1
  simp only [val] at *
  rw [Rat.intCast_add, Rat.intCast_mul, Rat.intCast_mul, Rat.intCast_mul]
  grind
/-- a size at a place, by its value -/
def Pt (L : List Sz) (k : Nat) (q : Rat) : Prop := ∃ w, L[k]? = some (some w) ∧ val w = q
theorem jn_get {L M : List Sz} {k : Nat} (h : k < L.length + M.length - 1) : (jn L M)[k]? = some (acc L M k L.length) := by
  unfold jn
  rw [List.getElem?_map, List.getElem?_range h]; rfl
theorem jn_len (L M : List Sz) : (jn L M).length = L.length + M.length - 1 := by simp [jn]
theorem pt_of {L M : List Sz} (hL : Szs L) (hM : Szs M) {k : Nat} {q : Rat} (h : Pt (jn L M) k q) : ∃ i j x y, i + j = k ∧ Pt L i x ∧ Pt M j y ∧ q = x + y := by
  obtain ⟨w, hw, rfl⟩ := h
  have lk := lt_of_get hw
  rw [jn_len] at lk
  rw [jn_get lk] at hw
  have hw := Option.some.inj hw
  rcases acc_min hL hM (k := k) L.length with ⟨e, _⟩ | ⟨a, e, ⟨i, hi, hc⟩, _⟩
  · rw [e] at hw; cases hw
  · rw [e] at hw
    cases hw
    unfold con at hc
    split at hc
    · rename_i ik
      split at hc
      · rename_i u v hu hv
        cases hc
        have e2 := (val_plusF (hL.1 _ (List.mem_of_getElem? hu)) (hM.1 _ (List.mem_of_getElem? hv))).1
        exact ⟨i, k - i, _, _, by omega, ⟨u, hu, rfl⟩, ⟨v, hv, rfl⟩, e2⟩
      · cases hc
    · cases hc
theorem pt_to {L M : List Sz} (hL : Szs L) (hM : Szs M) {i j : Nat} {x y : Rat} (hx : Pt L i x) (hy : Pt M j y) : ∃ q, Pt (jn L M) (i + j) q ∧ q ≤ x + y := by
  obtain ⟨u, hu, rfl⟩ := hx
  obtain ⟨v, hv, rfl⟩ := hy
  have li := lt_of_get hu
  have lj := lt_of_get hv
  have ou := hL.1 _ (List.mem_of_getElem? hu)
  have ov := hM.1 _ (List.mem_of_getElem? hv)
  have hc : con L M (i + j) i = some (plusF u v) := by
    unfold con
    rw [if_pos (by omega), show i + j - i = j by omega, hu, hv]
  obtain ⟨e2, low⟩ := val_plusF ou ov
  rcases acc_min hL hM (k := i + j) L.length with ⟨_, h⟩ | ⟨a, e, ⟨i', hi, hc'⟩, h⟩
  · rw [h i li] at hc; cases hc
  · refine ⟨val a, ⟨a, by rw [jn_get (by omega), e], rfl⟩, ?_⟩
    have lt := h i li _ hc
    have a0 : 0 < a.2 := by
      obtain ⟨p, q⟩ := a
      exact ((hc' ▸ con_ok hL hM (k := i + j) (i := i')) p q rfl).1
    rw [← e2]
    exact Rat.not_lt.mp fun z => lt ((val_lt low.1 a0).mpr z)
theorem Pt.uniq {L : List Sz} {k : Nat} {q r : Rat} (h : Pt L k q) (h' : Pt L k r) : q = r := by
  obtain ⟨w, hw, rfl⟩ := h
  obtain ⟨x, hx, rfl⟩ := h'
  rw [hw] at hx
  cases hx
  rfl
theorem face_join {L M : List Sz} (hL : Szs L) (hM : Szs M) {τ h g : Rat} {a b c d : Nat} (fL : Face L τ h a b) (fM : Face M τ g c d) : Face (jn L M) τ (h + g) (a + c) (b + d) := by
  have split : ∀ {i j : Nat}, ((i + j : Nat) : Rat) = (i : Rat) + (j : Rat) := fun {i j} => Rat.natCast_add i j
  have lo : ∀ (k : Nat) w, (jn L M)[k]? = some (some w) → h + g ≤ val w - (k : Rat) * τ ∧ (val w - (k : Rat) * τ = h + g → a + c ≤ k ∧ k ≤ b + d) := fun k w hw => by
    obtain ⟨i, j, x, y, rfl, ⟨u, hu, rfl⟩, ⟨v, hv, rfl⟩, e⟩ := pt_of hL hM (q := val w) ⟨w, hw, rfl⟩
    have l1 := fL.lo i u hu
    have l2 := fM.lo j v hv
    rw [split, e]
    constructor
    · grind
    · intro z
      have b1 := fL.btw i u hu (by grind)
      have b2 := fM.btw j v hv (by grind)
      omega
  have at_ : ∀ {i j : Nat} {u v : Int × Int}, L[i]? = some (some u) → val u - (i : Rat) * τ = h → M[j]? = some (some v) → val v - (j : Rat) * τ = g → ∃ w, (jn L M)[i + j]? = some (some w) ∧ val w - ((i + j : Nat) : Rat) * τ = h + g := fun {i j u v} hu eu hv ev => by
    obtain ⟨q, ⟨w, hw, rfl⟩, le⟩ := pt_to hL hM (i := i) (j := j) ⟨u, hu, rfl⟩ ⟨v, hv, rfl⟩
    have := (lo _ w hw).1
    refine ⟨w, hw, ?_⟩
    rw [split] at this ⊢
    grind
  obtain ⟨u1, hu1, eu1⟩ := fL.at1
  obtain ⟨u2, hu2, eu2⟩ := fL.at2
  obtain ⟨v1, hv1, ev1⟩ := fM.at1
  obtain ⟨v2, hv2, ev2⟩ := fM.at2
  exact ⟨fun k w hw => (lo k w hw).1, at_ hu1 eu1 hv1 ev1, at_ hu2 eu2 hv2 ev2, fun k w hw e => (lo k w hw).2 e⟩
theorem first_join {L M : List Sz} (hL : Szs L) (hM : Szs M) {f g : Nat} (fL : First L f) (fM : First M g) : First (jn L M) (f + g) := by
  obtain ⟨⟨u, hu⟩, h1⟩ := fL
  obtain ⟨⟨v, hv⟩, h2⟩ := fM
  have l1 := lt_of_get hu
  have l2 := lt_of_get hv
  obtain ⟨q, ⟨w, hw, _⟩, _⟩ := pt_to hL hM (i := f) (j := g) ⟨u, hu, rfl⟩ ⟨v, hv, rfl⟩
  refine ⟨⟨w, hw⟩, fun k hk => ?_⟩
  have lk : k < L.length + M.length - 1 := by omega
  cases e : acc L M k L.length with
  | none => rw [jn_get lk, e]
  | some a =>
    exfalso
    obtain ⟨i, j, x, y, rfl, ⟨u', hu', _⟩, ⟨v', hv', _⟩, _⟩ := pt_of hL hM (k := k) (q := val a) ⟨a, by rw [jn_get lk, e], rfl⟩
    by_cases z : i < f
    · rw [h1 i z] at hu'; cases hu'
    · rw [h2 j (by omega)] at hv'; cases hv'
/-- sums of what the laws draw -/
theorem jn_szs {L M : List Sz} (hL : ∀ x ∈ L, Oks x) (hM : ∀ x ∈ M, Oks x) (lL : L.length ≤ 40) (lM : M.length ≤ 40) (l1 : 1 ≤ L.length) (m1 : 1 ≤ M.length) : Szs (jn L M) := by
  have sL : Szs L := ⟨fun x hx => (hL x hx).f, by omega, l1⟩
  have sM : Szs M := ⟨fun x hx => (hM x hx).f, by omega, m1⟩
  refine ⟨fun x hx => ?_, by rw [jn_len]; omega, by rw [jn_len]; omega⟩
  obtain ⟨k, hk⟩ := List.getElem?_of_mem hx
  have lk := lt_of_get hk
  rw [jn_len] at lk
  rw [jn_get lk] at hk
  have hk := Option.some.inj hk
  rcases acc_min sL sM (k := k) L.length with ⟨e, _⟩ | ⟨a, e, ⟨i, hi, hc⟩, _⟩
  · rw [← hk, e]; exact fun p q z => nomatch z
  · rw [← hk, e]
    unfold con at hc
    split at hc
    · split at hc
      · rename_i u v hu hv
        cases hc
        obtain ⟨p, q⟩ := u
        obtain ⟨r, s⟩ := v
        obtain ⟨q0, _, p1, q1⟩ := hL _ (List.mem_of_getElem? hu) p q rfl
        obtain ⟨s0, _, r1, s1⟩ := hM _ (List.mem_of_getElem? hv) r s rfl
        have b1 : (p * s).natAbs < 2 ^ 35 := mul_lt_pow (n := 31) (m := 4) p1 (by omega)
        have b2 : (r * q).natAbs < 2 ^ 35 := mul_lt_pow (n := 31) (m := 4) r1 (by omega)
        have b3 : (q * s).natAbs < 2 ^ 8 := mul_lt_pow (n := 4) (m := 4) (by omega) (by omega)
        have z : 0 < q * s := Int.mul_pos q0 s0
        exact low_okf z (show (p * s + r * q).natAbs < 2 ^ 60 by omega) (show q * s < 2 ^ 20 by omega)
      · cases hc
    · cases hc
theorem jn_lows {L M : List Sz} (hL : Szs L) (hM : Szs M) {k : Nat} {w : Int × Int} (h : (jn L M)[k]? = some (some w)) : Low w := by
  have lk := lt_of_get h
  rw [jn_len] at lk
  rw [jn_get lk] at h
  have h := Option.some.inj h
  have := acc_ok hL hM (k := k) (n := L.length) w.1 w.2 h
  exact ⟨this.1, this.2.1⟩
/-- three put together, in either pairing -/
theorem jn_assoc {A B C : List Sz} (hA : Szs A) (hB : Szs B) (hC : Szs C) (h1 : Szs (jn A B)) (h2 : Szs (jn B C)) : jn (jn A B) C = jn A (jn B C) := by
  have a1 := hA.2.2
  have b1 := hB.2.2
  have c1 := hC.2.2
  have len : (jn (jn A B) C).length = (jn A (jn B C)).length := by rw [jn_len, jn_len, jn_len, jn_len]; omega
  have le1 : ∀ k q, Pt (jn (jn A B) C) k q → ∃ r, Pt (jn A (jn B C)) k r ∧ r ≤ q := fun k q h => by
    obtain ⟨i, j, x, y, rfl, hx, hy, rfl⟩ := pt_of h1 hC h
    obtain ⟨i1, i2, x1, x2, rfl, hx1, hx2, rfl⟩ := pt_of hA hB hx
    obtain ⟨r, hr, l1⟩ := pt_to hB hC hx2 hy
    obtain ⟨r2, hr2, l2⟩ := pt_to hA h2 hx1 hr
    exact ⟨r2, by rw [Nat.add_assoc]; exact hr2, by grind⟩
  have le2 : ∀ k q, Pt (jn A (jn B C)) k q → ∃ r, Pt (jn (jn A B) C) k r ∧ r ≤ q := fun k q h => by
    obtain ⟨i, j, x, y, rfl, hx, hy, rfl⟩ := pt_of hA h2 h
    obtain ⟨i1, i2, x1, x2, rfl, hx1, hx2, rfl⟩ := pt_of hB hC hy
    obtain ⟨r, hr, l1⟩ := pt_to hA hB hx hx1
    obtain ⟨r2, hr2, l2⟩ := pt_to h1 hC hr hx2
    exact ⟨r2, by rw [← Nat.add_assoc]; exact hr2, by grind⟩
  refine List.ext_getElem? fun k => ?_
  by_cases hk : k < (jn (jn A B) C).length
  · have e1 := List.getElem?_eq_getElem hk
    have e2 := List.getElem?_eq_getElem (len ▸ hk)
    cases x : (jn (jn A B) C)[k] with
    | none =>
      cases y : (jn A (jn B C))[k]'(len ▸ hk) with
      | none => rw [e1, e2, x, y]
      | some w =>
        rw [y] at e2
        obtain ⟨r, ⟨w2, hw2, _⟩, _⟩ := le2 k _ ⟨w, e2, rfl⟩
        rw [e1, x] at hw2
        cases hw2
    | some w =>
      rw [x] at e1
      obtain ⟨r, ⟨w2, hw2, rfl⟩, l1⟩ := le1 k _ ⟨w, e1, rfl⟩
      obtain ⟨r3, hr3, l3⟩ := le2 k _ ⟨w2, hw2, rfl⟩
      have := hr3.uniq ⟨w, e1, rfl⟩
      subst this
      have ev : val w = val w2 := by grind
      rw [e1, hw2, val_inj (jn_lows h1 hC e1) (jn_lows hA h2 hw2) ev]
  · rw [List.getElem?_eq_none (by omega), List.getElem?_eq_none (by omega)]
end Tr
namespace Tr
section
variable {α : Type} [R : Lean.Grind.CommRing α]
def mulc (a b : Nat → α) : Nat → α
  | 0 => a 0 * b 0
  | n + 1 => a 0 * b (n + 1) + mulc (fun k => a (k + 1)) b n
theorem mulc_zero {b : Nat → α} : ∀ (n : Nat) {a : Nat → α}, (∀ k, a k = 0) → mulc a b n = 0
  | 0, a, h => by rw [mulc, h]; grind
  | n + 1, a, h => by rw [mulc, h, mulc_zero n fun k => h (k + 1)]; grind
theorem mulc_add {b : Nat → α} : ∀ (n : Nat) {a a' : Nat → α}, mulc (fun k => a k + a' k) b n = mulc a b n + mulc a' b n
  | 0, a, a' => by simp only [mulc]; grind
  | n + 1, a, a' => by
    have := mulc_add (b := b) n (a := fun k => a (k + 1)) (a' := fun k => a' (k + 1))
    simp only [mulc, this]
    grind
theorem mulc_smul {c : α} {b : Nat → α} : ∀ (n : Nat) {a : Nat → α}, mulc (fun k => c * a k) b n = c * mulc a b n
  | 0, a => by simp only [mulc]; grind
  | n + 1, a => by
    have := mulc_smul (c := c) (b := b) n (a := fun k => a (k + 1))
    simp only [mulc, this]
    grind
theorem mulc_succ : ∀ (n : Nat) {a b : Nat → α}, mulc a b (n + 1) = a (n + 1) * b 0 + mulc a (fun k => b (k + 1)) n
  | 0, a, b => by simp only [mulc]; grind
  | n + 1, a, b => by
    have := mulc_succ n (a := fun k => a (k + 1)) (b := b)
    rw [mulc, this, mulc]
    grind
theorem mulc_comm : ∀ (n : Nat) {a b : Nat → α}, mulc a b n = mulc b a n
  | 0, a, b => by simp only [mulc]; grind
  | n + 1, a, b => by
    rw [mulc, mulc_succ, mulc_comm n]
    grind
theorem mulc_assoc : ∀ (n : Nat) {a b c : Nat → α}, mulc (mulc a b) c n = mulc a (mulc b c) n
  | 0, a, b, c => by simp only [mulc]; grind
  | n + 1, a, b, c => by
    have e : (fun k => mulc a b (k + 1)) = fun k => (fun k => a 0 * b (k + 1)) k + (mulc (fun k => a (k + 1)) b) k := by
      funext k
      rw [mulc]
    rw [mulc, e, mulc_add n, mulc_smul n, mulc_assoc n, mulc, mulc, mulc]
    grind
theorem mulc_one {b : Nat → α} : ∀ (n : Nat) {a : Nat → α}, a 0 = 1 → (∀ k, a (k + 1) = 0) → mulc a b n = b n
  | 0, a, h, h2 => by rw [mulc, h]; grind
  | n + 1, a, h, h2 => by rw [mulc, h, mulc_zero n h2]; grind
/-- only one of the first row -/
theorem mulc_mono {b : Nat → α} : ∀ (n i : Nat) {a : Nat → α}, (∀ k, k ≠ i → a k = 0) → mulc a b n = if i ≤ n then a i * b (n - i) else 0
  | 0, 0, a, h => by simp [mulc]
  | 0, i + 1, a, h => by rw [mulc, h 0 (by omega)]; simp; grind
  | n + 1, 0, a, h => by
    rw [mulc, mulc_zero n fun k => h (k + 1) (by omega)]
    simp
    grind
  | n + 1, i + 1, a, h => by
    rw [mulc, h 0 (by omega), mulc_mono n i (a := fun k => a (k + 1)) fun k hk => h (k + 1) (by omega)]
    by_cases q : i ≤ n
    · rw [if_pos q, if_pos (by omega), show n + 1 - (i + 1) = n - i by omega]; grind
    · rw [if_neg q, if_neg (by omega)]; grind
/-- beyond both ends -/
theorem mulc_end {b : Nat → α} {m : Nat} (hb : ∀ k, m ≤ k → b k = 0) : ∀ {n : Nat} {a : Nat → α} {t : Nat}, (∀ k, n ≤ k → a k = 0) → n + m ≤ t + 1 → mulc a b t = 0
  | 0, a, t, ha, _ => mulc_zero t fun k => ha k (Nat.zero_le _)
  | n + 1, a, t, ha, h => by
    cases t with
    | zero =>
      rw [mulc, hb 0 (by omega)]
      grind
    | succ t =>
      rw [mulc, hb (t + 1) (by omega), mulc_end hb (n := n) (a := fun k => a (k + 1)) (t := t) (fun k hk => ha (k + 1) (by omega)) (by omega)]
      grind
/-- the top one of a product -/
theorem mulc_top {b : Nat → α} {m : Nat} (hb : ∀ k, m < k → b k = 0) : ∀ {n : Nat} {a : Nat → α}, (∀ k, n < k → a k = 0) → mulc a b (n + m) = a n * b m
  | 0, a, ha => by
    rw [mulc_mono (0 + m) 0 fun k hk => ha k (by omega)]
    simp
  | n + 1, a, ha => by
    rw [show n + 1 + m = (n + m) + 1 by omega, mulc, hb (n + m + 1) (by omega), mulc_top hb (n := n) (a := fun k => a (k + 1)) fun k hk => ha (k + 1) (by omega)]
    grind
end
structure PS (α : Type) where
  c : Nat → α
namespace PS
variable {α : Type} [R : Lean.Grind.CommRing α]
theorem ext {a b : PS α} (h : ∀ k, a.c k = b.c k) : a = b := by
  obtain ⟨a⟩ := a
  obtain ⟨b⟩ := b
  congr
  exact funext h
/-- a constant -/
def C (x : α) : PS α := ⟨fun k => if k = 0 then x else 0⟩
/-- the letter to a power, so many times -/
def M (x : α) (i : Nat) : PS α := ⟨fun k => if k = i then x else 0⟩
instance : Add (PS α) := ⟨fun a b => ⟨fun k => a.c k + b.c k⟩⟩
instance : Mul (PS α) := ⟨fun a b => ⟨mulc a.c b.c⟩⟩
instance : Neg (PS α) := ⟨fun a => ⟨fun k => -a.c k⟩⟩
instance : Sub (PS α) := ⟨fun a b => ⟨fun k => a.c k - b.c k⟩⟩
instance : NatCast (PS α) := ⟨fun n => C (R.natCast.natCast n)⟩
instance : IntCast (PS α) := ⟨fun n => C (R.intCast.intCast n)⟩
instance (n : Nat) : OfNat (PS α) n := ⟨C (OfNat.ofNat n)⟩
instance : SMul Nat (PS α) := ⟨fun n a => (n : PS α) * a⟩
instance : SMul Int (PS α) := ⟨fun n a => (n : PS α) * a⟩
def pw (a : PS α) : Nat → PS α
  | 0 => C 1
  | n + 1 => pw a n * a
instance : HPow (PS α) Nat (PS α) := ⟨pw⟩
@[simp] theorem add_c (a b : PS α) (k : Nat) : (a + b).c k = a.c k + b.c k := rfl
@[simp] theorem sub_c (a b : PS α) (k : Nat) : (a - b).c k = a.c k - b.c k := rfl
@[simp] theorem neg_c (a : PS α) (k : Nat) : (-a).c k = -a.c k := rfl
theorem mul_c (a b : PS α) (k : Nat) : (a * b).c k = mulc a.c b.c k := rfl
theorem zero_c (k : Nat) : (0 : PS α).c k = 0 := by
  show (if k = 0 then (0 : α) else 0) = 0
  split <;> rfl
theorem one_c (k : Nat) : (1 : PS α).c k = if k = 0 then 1 else 0 := rfl
theorem C_c (x : α) (k : Nat) : (C x).c k = if k = 0 then x else 0 := rfl
theorem M_c (x : α) (i k : Nat) : (M x i).c k = if k = i then x else 0 := rfl
theorem M_mul (x : α) (i : Nat) (b : PS α) (n : Nat) : (M x i * b).c n = if i ≤ n then x * b.c (n - i) else 0 := by
  rw [mul_c, mulc_mono n i fun k hk => by rw [M_c, if_neg hk]]
  simp [M_c]
theorem C_mul (x : α) (b : PS α) (n : Nat) : (C x * b).c n = x * b.c n := by
  have e : C x = M x 0 := rfl
  rw [e, M_mul]
  simp
instance : Lean.Grind.CommRing (PS α) where
  add_zero a := ext fun k => by rw [add_c, zero_c]; grind
  add_comm a b := ext fun k => by rw [add_c, add_c]; grind
  add_assoc a b c := ext fun k => by simp only [add_c]; grind
  mul_assoc a b c := ext fun k => by simp only [mul_c]; exact mulc_assoc k
  mul_comm a b := ext fun k => by simp only [mul_c]; exact mulc_comm k
  one_mul a := ext fun k => by
    rw [mul_c]
    exact mulc_one k (by rw [one_c]; rfl) fun k => by rw [one_c]; simp
  right_distrib a b c := ext fun k => by simp only [mul_c, add_c]; exact mulc_add k
  mul_zero a := ext fun k => by
    rw [mul_c, mulc_comm, zero_c]
    exact mulc_zero k fun k => zero_c k
  mul_one a := ext fun k => by
    rw [mul_c, mulc_comm]
    exact mulc_one k (by rw [one_c]; rfl) fun k => by rw [one_c]; simp
  left_distrib a b c := ext fun k => by
    rw [mul_c, mulc_comm, add_c, mul_c, mul_c, mulc_comm k (a := a.c) (b := b.c), mulc_comm k (a := a.c) (b := c.c)]
    exact mulc_add k
  zero_mul a := ext fun k => by
    rw [mul_c, zero_c]
    exact mulc_zero k fun k => zero_c k
  pow_zero a := rfl
  pow_succ a n := rfl
  ofNat_succ n := ext fun k => by
    show (if k = 0 then (OfNat.ofNat (n + 1) : α) else 0) = (if k = 0 then (OfNat.ofNat n : α) else 0) + (if k = 0 then 1 else 0)
    split
    · exact R.ofNat_succ n
    · grind
  ofNat_eq_natCast n := congrArg C (R.ofNat_eq_natCast n)
  neg_add_cancel a := ext fun k => by rw [add_c, neg_c, zero_c]; grind
  sub_eq_add_neg a b := ext fun k => by rw [add_c, neg_c, sub_c]; grind
  neg_zsmul i a := ext fun k => by
    show (C (R.intCast.intCast (-i)) * a).c k = -(C (R.intCast.intCast i) * a).c k
    rw [C_mul, C_mul]
    have := R.intCast_neg i
    have e : (R.intCast.intCast (-i)) = -(R.intCast.intCast i) := this
    rw [e]
    grind
  zsmul_natCast_eq_nsmul n a := by
    show C (R.intCast.intCast (n : Int)) * a = C (R.natCast.natCast n) * a
    have e : (R.intCast.intCast (n : Int)) = R.natCast.natCast n := Lean.Grind.Ring.intCast_natCast n
    rw [e]
  intCast_ofNat n := congrArg C (R.intCast_ofNat n)
  intCast_neg n := ext fun k => by
    show (C (R.intCast.intCast (-n))).c k = -(C (R.intCast.intCast n)).c k
    have e : (R.intCast.intCast (-n)) = -(R.intCast.intCast n) := R.intCast_neg n
    rw [C_c, C_c, e]
    split <;> grind
end PS
end Tr
namespace Tr
namespace GF
open PS
section
variable {K : Type} [R : Lean.Grind.CommRing K]
/-- no coefficient from n on -/
def Bd (a : PS K) (n : Nat) : Prop := ∀ k, n ≤ k → a.c k = 0
theorem Bd.mono {a : PS K} {n m : Nat} (h : Bd a n) (hn : n ≤ m) : Bd a m := fun k hk => h k (by lia)
theorem Bd.add {a b : PS K} {n : Nat} (h : Bd a n) (h' : Bd b n) : Bd (a + b) n := fun k hk => by rw [add_c, h k hk, h' k hk]; grind
theorem Bd.sub {a b : PS K} {n : Nat} (h : Bd a n) (h' : Bd b n) : Bd (a - b) n := fun k hk => by rw [sub_c, h k hk, h' k hk]; grind
theorem Bd.neg {a : PS K} {n : Nat} (h : Bd a n) : Bd (-a) n := fun k hk => by rw [neg_c, h k hk]; grind
theorem Bd.zero (n : Nat) : Bd (0 : PS K) n := fun k _ => zero_c k
theorem Bd.one : Bd (1 : PS K) 1 := fun k hk => by rw [one_c, if_neg (by lia)]
theorem Bd.M (x : K) (i : Nat) : Bd (PS.M x i) (i + 1) := fun k hk => by rw [M_c, if_neg (by lia)]
theorem Bd.mul {a b : PS K} {n m t : Nat} (h : Bd a n) (h' : Bd b m) (ht : n + m ≤ t + 1) : Bd (a * b) t := fun k hk => mulc_end h' h (by lia)
theorem Bd.nil {a : PS K} (h : Bd a 0) : a = 0 := ext fun k => by rw [h k (Nat.zero_le _), zero_c]
def Poly (a : PS K) : Prop := ∃ n, Bd a n
theorem Poly.add {a b : PS K} : Poly a → Poly b → Poly (a + b) := fun ⟨n, h⟩ ⟨m, h'⟩ => ⟨n + m, (h.mono (by lia)).add (h'.mono (by lia))⟩
theorem Poly.sub {a b : PS K} : Poly a → Poly b → Poly (a - b) := fun ⟨n, h⟩ ⟨m, h'⟩ => ⟨n + m, (h.mono (by lia)).sub (h'.mono (by lia))⟩
theorem Poly.neg {a : PS K} : Poly a → Poly (-a) := fun ⟨n, h⟩ => ⟨n, h.neg⟩
theorem Poly.mul {a b : PS K} : Poly a → Poly b → Poly (a * b) := fun ⟨n, h⟩ ⟨m, h'⟩ => ⟨n + m, h.mul h' (by lia)⟩
theorem Poly.zero : Poly (0 : PS K) := ⟨0, Bd.zero 0⟩
theorem Poly.one : Poly (1 : PS K) := ⟨1, Bd.one⟩
/-- monic of degree n -/
def Mon (g : PS K) (n : Nat) : Prop := g.c n = 1 ∧ Bd g (n + 1)
theorem Mon.poly {g : PS K} {n : Nat} (h : Mon g n) : Poly g := ⟨n + 1, h.2⟩
theorem rem_ex {g : PS K} {n : Nat} (hg : Mon g n) : ∀ (m : Nat) (a : PS K), Bd a (n + m) → ∃ q r, a = q * g + r ∧ Bd r n ∧ Bd q m
  | 0, a, h => ⟨0, a, by grind, h, Bd.zero 0⟩
  | m + 1, a, h => by
    obtain ⟨q, r, e, h1, h2⟩ := rem_ex hg m (a - PS.M (a.c (n + m)) m * g) (fun k hk => by
      rw [sub_c, M_mul, if_pos (by lia)]
      by_cases q : k = n + m
      · subst q
        rw [show n + m - m = n by lia, hg.1]
        grind
      · rw [h k (by lia), hg.2 (k - m) (by lia)]
        grind)
    refine ⟨q + PS.M (a.c (n + m)) m, r, ?_, h1, (h2.mono (by lia)).add (Bd.M _ _)⟩
    grind
theorem rem_zero {g : PS K} {n : Nat} (hg : Mon g n) {r : PS K} (hr : Bd r n) : ∀ (m : Nat) {q : PS K}, Bd q m → q * g + r = 0 → q = 0
  | 0, q, hq, _ => hq.nil
  | m + 1, q, hq, h => by
    have e : (q * g + r).c (m + n) = 0 := by rw [h, zero_c]
    rw [add_c, hr (m + n) (by lia), mul_c, mulc_top (fun k hk => hg.2 k (by lia)) (fun k hk => hq k (by lia)), hg.1] at e
    refine rem_zero hg hr m (fun k hk => ?_) h
    by_cases z : k = m
    · subst z; grind
    · exact hq k (by lia)
theorem rem_uniq {g : PS K} {n : Nat} (hg : Mon g n) {q r q' r' : PS K} (hr : Bd r n) (hr' : Bd r' n) (hq : Poly q) (hq' : Poly q') (h : q * g + r = q' * g + r') : q = q' ∧ r = r' := by
  obtain ⟨m, hm⟩ := hq.sub hq'
  have z := rem_zero hg (hr.sub hr') m hm (by grind)
  have : q = q' := by grind
  subst this
  exact ⟨rfl, by grind⟩
/-- alike by g -/
def Eqv (g a b : PS K) : Prop := ∃ q, Poly q ∧ a - b = q * g
theorem Eqv.refl (g a : PS K) : Eqv g a a := ⟨0, .zero, by grind⟩
theorem Eqv.of_eq {g a b : PS K} (h : a = b) : Eqv g a b := h ▸ Eqv.refl g a
theorem Eqv.symm {g a b : PS K} : Eqv g a b → Eqv g b a := fun ⟨q, h, e⟩ => ⟨-q, h.neg, by grind⟩
theorem Eqv.trans {g a b c : PS K} : Eqv g a b → Eqv g b c → Eqv g a c := fun ⟨q, h, e⟩ ⟨q', h', e'⟩ => ⟨q + q', h.add h', by grind⟩
theorem Eqv.add {g a b a' b' : PS K} : Eqv g a b → Eqv g a' b' → Eqv g (a + a') (b + b') := fun ⟨q, h, e⟩ ⟨q', h', e'⟩ => ⟨q + q', h.add h', by grind⟩
theorem Eqv.sub {g a b a' b' : PS K} : Eqv g a b → Eqv g a' b' → Eqv g (a - a') (b - b') := fun ⟨q, h, e⟩ ⟨q', h', e'⟩ => ⟨q - q', h.sub h', by grind⟩
theorem Eqv.neg {g a b : PS K} : Eqv g a b → Eqv g (-a) (-b) := fun ⟨q, h, e⟩ => ⟨-q, h.neg, by grind⟩
theorem Eqv.mul {g a b a' b' : PS K} (ha : Poly a') (hb : Poly b) : Eqv g a b → Eqv g a' b' → Eqv g (a * a') (b * b') := fun ⟨q, h, e⟩ ⟨q', h', e'⟩ => ⟨q * a' + b * q', (h.mul ha).add (hb.mul h'), by grind⟩
theorem Eqv.eq {g a b : PS K} {n : Nat} (hg : Mon g n) (ha : Bd a n) (hb : Bd b n) : Eqv g a b → a = b := fun ⟨q, h, e⟩ =>
  (rem_uniq hg (q := q) (r := b) (q' := 0) (r' := a) hb ha h .zero (by grind)).2.symm
open Classical in
/-- the rest by g -/
noncomputable def rmd (g : PS K) (n : Nat) (a : PS K) : PS K := if h : ∃ r, Bd r n ∧ Eqv g a r then h.choose else 0
theorem rmd_bd (g : PS K) (n : Nat) (a : PS K) : Bd (rmd g n a) n := by
  unfold rmd
  split
  · rename_i h; exact h.choose_spec.1
  · exact Bd.zero n
theorem rmd_eqv {g : PS K} {n : Nat} (hg : Mon g n) {a : PS K} (ha : Poly a) : Eqv g a (rmd g n a) := by
  have h : ∃ r, Bd r n ∧ Eqv g a r := by
    obtain ⟨m, hm⟩ := ha
    obtain ⟨q, r, e, h1, h2⟩ := rem_ex hg m a (hm.mono (by lia))
    exact ⟨r, h1, q, ⟨m, h2⟩, by grind⟩
  unfold rmd
  rw [dif_pos h]
  exact h.choose_spec.2
theorem rmd_of {g : PS K} {n : Nat} (hg : Mon g n) {a r : PS K} (hr : Bd r n) (h : Eqv g a r) (ha : Poly a) : rmd g n a = r :=
  Eqv.eq hg (rmd_bd g n a) hr ((rmd_eqv hg ha).symm.trans h)
/-- the ring of the rests by g -/
structure Q (g : PS K) (n : Nat) (hg : Mon g n) where
  v : PS K
  bd : Bd v n
namespace Q
variable {g : PS K} {n : Nat} {hg : Mon g n}
theorem ext {a b : Q g n hg} (h : a.v = b.v) : a = b := by
  obtain ⟨a, _⟩ := a
  obtain ⟨b, _⟩ := b
  cases h
  rfl
theorem eqv {a b : Q g n hg} (h : Eqv g a.v b.v) : a = b := ext (h.eq hg a.bd b.bd)
theorem poly (a : Q g n hg) : Poly a.v := ⟨n, a.bd⟩
noncomputable def of (a : PS K) : Q g n hg := ⟨rmd g n a, rmd_bd g n a⟩
theorem of_eqv {a : PS K} (ha : Poly a) : Eqv g (of (hg := hg) a).v a := (rmd_eqv hg ha).symm
noncomputable instance : Add (Q g n hg) := ⟨fun a b => ⟨a.v + b.v, a.bd.add b.bd⟩⟩
noncomputable instance : Mul (Q g n hg) := ⟨fun a b => of (a.v * b.v)⟩
noncomputable instance : Neg (Q g n hg) := ⟨fun a => ⟨-a.v, a.bd.neg⟩⟩
noncomputable instance : Sub (Q g n hg) := ⟨fun a b => ⟨a.v - b.v, a.bd.sub b.bd⟩⟩
noncomputable instance : NatCast (Q g n hg) := ⟨fun k => of (k : PS K)⟩
noncomputable instance : IntCast (Q g n hg) := ⟨fun k => of (k : PS K)⟩
noncomputable instance (k : Nat) : OfNat (Q g n hg) k := ⟨of (OfNat.ofNat k : PS K)⟩
noncomputable instance : SMul Nat (Q g n hg) := ⟨fun k a => (k : Q g n hg) * a⟩
noncomputable instance : SMul Int (Q g n hg) := ⟨fun k a => (k : Q g n hg) * a⟩
noncomputable def pw (a : Q g n hg) : Nat → Q g n hg
  | 0 => of 1
  | k + 1 => pw a k * a
noncomputable instance : HPow (Q g n hg) Nat (Q g n hg) := ⟨pw⟩
theorem add_v (a b : Q g n hg) : (a + b).v = a.v + b.v := rfl
theorem sub_v (a b : Q g n hg) : (a - b).v = a.v - b.v := rfl
theorem neg_v (a : Q g n hg) : (-a).v = -a.v := rfl
theorem mul_v (a b : Q g n hg) : Eqv g (a * b).v (a.v * b.v) := of_eqv (a.poly.mul b.poly)
theorem polyNat (k : Nat) : Poly ((k : PS K)) := ⟨1, fun j hj => by
  show (PS.C (R.natCast.natCast k)).c j = 0
  rw [C_c, if_neg (by lia)]⟩
theorem polyInt (k : Int) : Poly ((k : PS K)) := ⟨1, fun j hj => by
  show (PS.C (R.intCast.intCast k)).c j = 0
  rw [C_c, if_neg (by lia)]⟩
theorem polyOf (k : Nat) : Poly (OfNat.ofNat k : PS K) := ⟨1, fun j hj => by
  show (PS.C (OfNat.ofNat k)).c j = 0
  rw [C_c, if_neg (by lia)]⟩
theorem nat_v (k : Nat) : Eqv g ((k : Q g n hg)).v (k : PS K) := of_eqv (polyNat k)
theorem int_v (k : Int) : Eqv g ((k : Q g n hg)).v (k : PS K) := of_eqv (polyInt k)
theorem ofNat_v (k : Nat) : Eqv g ((OfNat.ofNat k : Q g n hg)).v (OfNat.ofNat k : PS K) := of_eqv (polyOf k)
theorem zero_v : ((0 : Q g n hg)).v = 0 := rmd_of hg (Bd.zero n) (.refl g 0) .zero
theorem one_v : Eqv g ((1 : Q g n hg)).v 1 := of_eqv (polyOf 1)
noncomputable instance : Lean.Grind.CommRing (Q g n hg) where
  add_zero a := ext (by rw [add_v, zero_v]; grind)
  add_comm a b := ext (by rw [add_v, add_v]; grind)
  add_assoc a b c := ext (by simp only [add_v]; grind)
  mul_assoc a b c := eqv (((mul_v (a * b) c).trans (.mul c.poly (a.poly.mul b.poly) (mul_v a b) (.refl g c.v))).trans (((Eqv.of_eq (by grind : a.v * b.v * c.v = a.v * (b.v * c.v))).trans (.mul (b.poly.mul c.poly) a.poly (.refl g a.v) (mul_v b c).symm)).trans (mul_v a (b * c)).symm))
  mul_comm a b := eqv ((mul_v a b).trans ((Eqv.of_eq (by grind)).trans (mul_v b a).symm))
  one_mul a := eqv ((mul_v 1 a).trans ((Eqv.mul a.poly .one one_v (.refl g a.v)).trans (.of_eq (by grind))))
  mul_one a := eqv ((mul_v a 1).trans ((Eqv.mul (Q.poly 1) a.poly (.refl g a.v) one_v).trans (.of_eq (by grind))))
  left_distrib a b c := eqv ((mul_v a (b + c)).trans ((Eqv.of_eq (by rw [add_v]; grind)).trans (.add (mul_v a b).symm (mul_v a c).symm)))
  right_distrib a b c := eqv ((mul_v (a + b) c).trans ((Eqv.of_eq (by rw [add_v]; grind)).trans (.add (mul_v a c).symm (mul_v b c).symm)))
  zero_mul a := eqv ((mul_v 0 a).trans (.of_eq (by rw [zero_v]; grind)))
  mul_zero a := eqv ((mul_v a 0).trans (.of_eq (by rw [zero_v]; grind)))
  pow_zero a := rfl
  pow_succ a k := rfl
  ofNat_succ k := eqv ((ofNat_v (k + 1)).trans ((Eqv.of_eq (Lean.Grind.Semiring.ofNat_succ (α := PS K) k)).trans (.add (ofNat_v k).symm one_v.symm)))
  ofNat_eq_natCast k := eqv ((ofNat_v k).trans ((Eqv.of_eq (Lean.Grind.Semiring.ofNat_eq_natCast (α := PS K) k)).trans (nat_v k).symm))
  neg_add_cancel a := ext (by rw [add_v, neg_v, zero_v]; grind)
  sub_eq_add_neg a b := ext (by rw [add_v, neg_v, sub_v]; grind)
  neg_zsmul i a := eqv ((mul_v _ a).trans ((Eqv.mul a.poly (polyInt (-i)) (int_v (-i)) (.refl g a.v)).trans ((Eqv.of_eq (by rw [Lean.Grind.Ring.intCast_neg]; grind)).trans ((Eqv.neg (Eqv.mul a.poly (polyInt i) (int_v i) (.refl g a.v))).symm.trans (Eqv.neg (mul_v _ a)).symm))))
  zsmul_natCast_eq_nsmul k a := eqv ((mul_v _ a).trans ((Eqv.mul a.poly (polyInt k) (int_v k) (.refl g a.v)).trans ((Eqv.of_eq (by rw [Lean.Grind.Ring.intCast_natCast])).trans ((Eqv.mul a.poly (polyNat k) (nat_v k) (.refl g a.v)).symm.trans (mul_v _ a).symm))))
  intCast_ofNat k := eqv ((int_v _).trans ((Eqv.of_eq (Lean.Grind.Ring.intCast_ofNat (α := PS K) k)).trans (ofNat_v k).symm))
  intCast_neg k := eqv ((int_v _).trans ((Eqv.of_eq (Lean.Grind.Ring.intCast_neg (α := PS K) k)).trans (Eqv.neg (int_v k)).symm))
end Q
end
end GF
end Tr
namespace Tr
namespace GF
open PS
/-- a finite field -/
structure Fld (K : Type) [Lean.Grind.CommRing K] where
  els : List K
  nd : els.Nodup
  all : ∀ x, x ∈ els
  ne : (1 : K) ≠ 0
  inv : ∀ x : K, x ≠ 0 → ∃ y, x * y = 1
section
variable {α : Type}
open Classical in
theorem sub_perm : ∀ {l m : List α}, l.Nodup → (∀ x ∈ l, x ∈ m) → m.length ≤ l.length → l.Perm m
  | [], m, _, _, h => by
    have : m = [] := List.length_eq_zero_iff.mp (by simpa using h)
    rw [this]
  | x :: l, m, nd, hs, h => by
    have hx := hs x (by simp)
    have p := List.perm_cons_erase hx
    have n := List.nodup_cons.mp nd
    have hlen := p.length_eq
    refine ((sub_perm (l := l) (m := m.erase x) n.2 (fun y hy => ?_) (by simp at hlen h; lia)).cons x).trans p.symm
    exact (List.mem_erase_of_ne (by intro z; subst z; exact n.1 hy)).mpr (hs y (by simp [hy]))
end
section
variable {K : Type} [R : Lean.Grind.CommRing K]
def pr : List K → K
  | [] => 1
  | x :: l => x * pr l
variable (F : Fld K)
include F
open Classical in
theorem Fld.len : 1 ≤ F.els.length := by
  have := F.all 0
  cases h : F.els with
  | nil => rw [h] at this; cases this
  | cons x l => simp
end
end GF
end Tr
namespace Tr
namespace GF
open PS
section
variable {K : Type} [R : Lean.Grind.CommRing K]
/-- g parts a -/
def Dvd (g a : PS K) : Prop := ∃ q, Poly q ∧ a = q * g
theorem Dvd.refl (g : PS K) : Dvd g g := ⟨1, .one, by grind⟩
theorem Dvd.zero (g : PS K) : Dvd g 0 := ⟨0, .zero, by grind⟩
theorem Dvd.add {g a b : PS K} : Dvd g a → Dvd g b → Dvd g (a + b) := fun ⟨q, h, e⟩ ⟨q', h', e'⟩ => ⟨q + q', h.add h', by grind⟩
theorem Dvd.sub {g a b : PS K} : Dvd g a → Dvd g b → Dvd g (a - b) := fun ⟨q, h, e⟩ ⟨q', h', e'⟩ => ⟨q - q', h.sub h', by grind⟩
theorem Dvd.trans {f g a : PS K} : Dvd f g → Dvd g a → Dvd f a := fun ⟨q, h, e⟩ ⟨q', h', e'⟩ => ⟨q' * q, h'.mul h, by grind⟩
theorem Mon.zero {u : PS K} (h : Mon u 0) : u = 1 := ext fun k => by
  rw [one_c]
  split
  · rename_i q; rw [q, h.1]
  · exact h.2 k (by lia)
end
end GF
end Tr
namespace Tr
namespace GF
open PS
section
variable {K : Type} [R : Lean.Grind.CommRing K]
theorem Q.of_eq {g : PS K} {n : Nat} {hg : Mon g n} {a b : PS K} (ha : Poly a) (hb : Poly b) (h : Eqv g a b) : (Q.of a : Q g n hg) = Q.of b := Q.eqv ((Q.of_eqv ha).trans (h.trans (Q.of_eqv hb).symm))
theorem pow_pow (x : K) (a : Nat) : ∀ b : Nat, (x ^ a) ^ b = x ^ (a * b)
  | 0 => by rw [Nat.mul_zero, Lean.Grind.Semiring.pow_zero, Lean.Grind.Semiring.pow_zero]
  | b + 1 => by rw [Lean.Grind.Semiring.pow_succ, pow_pow x a b, Nat.mul_succ, Lean.Grind.Semiring.pow_add]
end
section
variable {L : Type} [Lean.Grind.CommRing L]
/-- the numbers of steps that bring x back -/
def St (q : Nat) (x : L) (a : Nat) : Prop := x ^ (q ^ a) = x
theorem St.add {q : Nat} {x : L} {a b : Nat} (ha : St q x a) (hb : St q x b) : St q x (a + b) := by
  unfold St at *
  rw [Nat.pow_add, ← pow_pow, ha, hb]
theorem St.zero {q : Nat} {x : L} : St q x 0 := by
  unfold St
  rw [Nat.pow_zero, Lean.Grind.Semiring.pow_one]
theorem St.mul {q : Nat} {x : L} {a : Nat} (ha : St q x a) : ∀ k, St q x (a * k)
  | 0 => St.zero
  | k + 1 => by rw [Nat.mul_succ]; exact (St.mul ha k).add ha
theorem pow_inj {q d : Nat} (hd : 1 ≤ d) (h : ∀ z : L, z ^ (q ^ d) = z) : ∀ (b : Nat) {z w : L}, z ^ (q ^ b) = w ^ (q ^ b) → z = w
  | 0, z, w, e => by rw [Nat.pow_zero, Lean.Grind.Semiring.pow_one, Lean.Grind.Semiring.pow_one] at e; exact e
  | b + 1, z, w, e => by
    have one : ∀ {z w : L}, z ^ q = w ^ q → z = w := fun {z w} e => by
      obtain ⟨d', rfl⟩ : ∃ d', d = d' + 1 := ⟨d - 1, by lia⟩
      have h1 := h z
      have h2 := h w
      rw [Nat.pow_succ, Nat.mul_comm, ← pow_pow, e, pow_pow, ← Nat.mul_comm, ← Nat.pow_succ] at h1
      rw [← h1, h2]
    rw [Nat.pow_succ, ← pow_pow, ← pow_pow] at e
    exact pow_inj hd h b (one e)
theorem St.sub {q d : Nat} (hd : 1 ≤ d) (h : ∀ z : L, z ^ (q ^ d) = z) {x : L} {a b : Nat} (hab : b ≤ a) (ha : St q x a) (hb : St q x b) : St q x (a - b) := by
  refine pow_inj hd h b ?_
  rw [pow_pow, ← Nat.pow_add, show a - b + b = a by lia]
  exact ha.trans hb.symm
theorem St.gcd {q d : Nat} (hd : 1 ≤ d) (h : ∀ z : L, z ^ (q ^ d) = z) {x : L} : ∀ (m n : Nat), St q x m → St q x n → St q x (Nat.gcd m n) := fun m n => by
  induction m, n using Nat.gcd.induction with
  | H0 n => intro _ h2; rw [Nat.gcd_zero_left]; exact h2
  | H1 m n hm ih =>
    intro h1 h2
    rw [Nat.gcd_rec]
    refine ih ?_ h1
    have e := Nat.div_add_mod n m
    have := St.sub hd h (x := x) (a := n) (b := m * (n / m)) (by lia) h2 (h1.mul _)
    rwa [show n - m * (n / m) = n % m by lia] at this
end
end GF
end Tr
namespace Tr
open PySem L2
def Vp (p n : Int) (v : Nat) : Prop := ∃ m, n = p ^ v * m ∧ ¬ p ∣ m
theorem pow_ne {p : Int} (h : p ≠ 0) (v : Nat) : p ^ v ≠ 0 := Int.pow_ne_zero h
theorem Vp.dvd {p n : Int} {v j : Nat} (hp : p ≠ 0) (h : Vp p n v) : p ^ j ∣ n ↔ j ≤ v := by
  obtain ⟨m, rfl, hm⟩ := h
  constructor
  · intro d
    apply Nat.le_of_not_lt
    intro hlt
    apply hm
    have e : p ^ j = p ^ v * p * p ^ (j - v - 1) := by
      rw [← Int.pow_succ, ← Int.pow_add]
      congr 1
      lia
    have d2 : p ^ v * p ∣ p ^ v * m := Int.dvd_trans (by rw [e]; exact Int.dvd_mul_right _ _) d
    exact Int.dvd_of_mul_dvd_mul_left (pow_ne hp v) d2
  · intro hle
    have e : p ^ v = p ^ j * p ^ (v - j) := by
      rw [← Int.pow_add]
      congr 1
      lia
    rw [e, Int.mul_assoc]
    exact Int.dvd_mul_right _ _
theorem Vp.uniq {p n : Int} {v w : Nat} (hp : p ≠ 0) (h : Vp p n v) (g : Vp p n w) : v = w := by
  have a := (h.dvd (j := w) hp).mp ((g.dvd hp).mpr (Nat.le_refl _))
  have b := (g.dvd (j := v) hp).mp ((h.dvd hp).mpr (Nat.le_refl _))
  lia
/-- p is prime -/
def IsPr (p : Int) : Prop := 2 ≤ p ∧ ∀ a b : Int, p ∣ a * b → p ∣ a ∨ p ∣ b
theorem Vp.mul {p a b : Int} {v w : Nat} (hp : IsPr p) (h : Vp p a v) (g : Vp p b w) : Vp p (a * b) (v + w) := by
  obtain ⟨m, rfl, hm⟩ := h
  obtain ⟨k, rfl, hk⟩ := g
  refine ⟨m * k, ?_, fun z => (hp.2 m k z).elim hm hk⟩
  rw [Int.pow_add]
  simp only [Int.mul_assoc, Int.mul_left_comm]
end Tr
namespace Tr
namespace GF
open PS
local instance instNC7 {K : Type} [R : Lean.Grind.CommRing K] : NatCast K := Lean.Grind.Semiring.natCast
section
variable {K : Type} [R : Lean.Grind.CommRing K]
variable (F : Fld K)
include F
/-- Horner -/
def hn (a : K) : List K → K → K
  | [], _ => a
  | c :: cs, x => hn (a * x + c) cs x
/-- divided by the letter less r -/
def bl (r b : K) : List K → List K
  | [] => []
  | c :: cs => b :: bl r (b * r + c) cs
end
end GF
end Tr
namespace Tr
namespace GF
open PS
local instance instNC8 {K : Type} [R : Lean.Grind.CommRing K] : NatCast K := Lean.Grind.Semiring.natCast
end GF
end Tr
namespace Tr
namespace GF
open PS
section
variable {K : Type} [R : Lean.Grind.CommRing K]
/-- nothing in common -/
def Cop (a b : PS K) : Prop := ∃ s t, Poly s ∧ Poly t ∧ s * a + t * b = 1
theorem Cop.symm {a b : PS K} : Cop a b → Cop b a := fun ⟨s, t, ps, pt, e⟩ => ⟨t, s, pt, ps, by rw [← e]; grind⟩
theorem Cop.mul {a b c : PS K} (pa : Poly a) (pb : Poly b) (pc : Poly c) : Cop a b → Cop a c → Cop a (b * c) := fun ⟨s, t, ps, pt, e⟩ ⟨s', t', ps', pt', e'⟩ =>
  ⟨s * s' * a + s * t' * c + t * b * s', t * t', (((ps.mul ps').mul pa).add ((ps.mul pt').mul pc)).add ((pt.mul pb).mul ps'), pt.mul pt', by
    have : (s * a + t * b) * (s' * a + t' * c) = 1 := by rw [e, e']; grind
    rw [← this]; grind⟩
theorem Cop.dvd {a b a' b' : PS K} : Dvd a' a → Dvd b' b → Cop a b → Cop a' b' := fun ⟨q, pq, e1⟩ ⟨q', pq', e2⟩ ⟨s, t, ps, pt, e⟩ => ⟨s * q, t * q', ps.mul pq, pt.mul pq', by rw [← e, e1, e2]; grind⟩
theorem Cop.one (a : PS K) : Cop a 1 := ⟨0, 1, .zero, .one, by grind⟩
theorem Dvd.neg {g a : PS K} : Dvd g a → Dvd g (-a) := fun ⟨q, h, e⟩ => ⟨-q, h.neg, by rw [e]; grind⟩
theorem Dvd.poly {g a : PS K} (pg : Poly g) : Dvd g a → Poly a := fun ⟨q, h, e⟩ => e ▸ h.mul pg
abbrev Pc (K : Type) := PS K × Nat
def prs (ps : List (Pc K)) : PS K := pr (ps.map (·.1))
theorem prs_cons (P : Pc K) (ps : List (Pc K)) : prs (P :: ps) = P.1 * prs ps := rfl
def Mons (ps : List (Pc K)) : Prop := ∀ P ∈ ps, Mon P.1 P.2 ∧ 1 ≤ P.2
theorem Mons.poly {ps : List (Pc K)} (h : Mons ps) : Poly (prs ps) := by
  induction ps with
  | nil => exact Poly.one
  | cons P ps ih => rw [prs_cons]; exact (h P (by simp)).1.poly.mul (ih fun Q hQ => h Q (by simp [hQ]))
end
/-- all lists of n numbers below p -/
def tups (p : Nat) : Nat → List (List Nat)
  | 0 => [[]]
  | n + 1 => (List.range p).flatMap fun c => (tups p n).map (c :: ·)
theorem nodup_le {α : Type} [BEq α] [LawfulBEq α] : ∀ {l m : List α}, l.Nodup → (∀ x ∈ l, x ∈ m) → l.length ≤ m.length
  | [], m, _, _ => by simp
  | x :: l, m, nd, hs => by
    have n := List.nodup_cons.mp nd
    have p := List.perm_cons_erase (hs x (by simp))
    have := nodup_le (l := l) (m := m.erase x) n.2 fun y hy => (List.mem_erase_of_ne (by intro z; subst z; exact n.1 hy)).mpr (hs y (by simp [hy]))
    rw [p.length_eq]
    simpa using this
end GF
end Tr
namespace Tr
open PySem L2
abbrev Ln := (Int × Int) × Int
/-- one slope's length is added -/
def add1 : List Ln → Ln → List Ln
  | [], y => [y]
  | x :: r, y => if x.1 = y.1 then (x.1, x.2 + y.2) :: r else x :: add1 r y
def mrg (A B : List Ln) : List Ln := B.foldl add1 A
/-- what a list of slopes with lengths says -/
structure Rp (A : List Ln) (φ : (Int × Int) → Int) : Prop where
  nd : A.Pairwise (fun x y => x.1 ≠ y.1)
  iff : ∀ σ e, (σ, e) ∈ A ↔ φ σ = e ∧ 0 < e
theorem add1_key : ∀ {A : List Ln} {y x : Ln}, x ∈ add1 A y → x.1 = y.1 ∨ ∃ z ∈ A, z.1 = x.1
  | [], y, x, h => by
    rw [add1, List.mem_singleton] at h
    exact .inl (by rw [h])
  | z :: r, y, x, h => by
    rw [add1] at h
    split at h
    · rcases List.mem_cons.mp h with rfl | h
      · exact .inr ⟨z, by simp, rfl⟩
      · exact .inr ⟨x, by simp [h], rfl⟩
    · rcases List.mem_cons.mp h with rfl | h
      · exact .inr ⟨x, by simp, rfl⟩
      · rcases add1_key h with e | ⟨w, hw, e⟩
        · exact .inl e
        · exact .inr ⟨w, by simp [hw], e⟩
theorem add1_nd : ∀ {A : List Ln} {y : Ln}, A.Pairwise (fun x y => x.1 ≠ y.1) → (add1 A y).Pairwise (fun x y => x.1 ≠ y.1)
  | [], y, _ => by rw [add1]; exact List.pairwise_singleton _ _
  | z :: r, y, h => by
    obtain ⟨h1, h2⟩ := List.pairwise_cons.mp h
    rw [add1]
    split
    · exact List.pairwise_cons.mpr ⟨h1, h2⟩
    · rename_i q
      refine List.pairwise_cons.mpr ⟨fun x hx e => ?_, add1_nd h2⟩
      rcases add1_key hx with k | ⟨w, hw, k⟩
      · exact q (e.trans k)
      · exact h1 w hw (e.trans k.symm)
theorem add1_out : ∀ {A : List Ln} {y : Ln} {σ : Int × Int} {e : Int}, σ ≠ y.1 → ((σ, e) ∈ add1 A y ↔ (σ, e) ∈ A)
  | [], y, σ, e, h => by
    rw [add1, List.mem_singleton]
    exact ⟨fun z => absurd (congrArg Prod.fst z) h, fun z => nomatch z⟩
  | x :: r, y, σ, e, h => by
    rw [add1]
    split
    · rename_i q
      rw [List.mem_cons, List.mem_cons]
      constructor
      · rintro (z | z)
        · exact absurd ((congrArg Prod.fst z).trans q) h
        · exact .inr z
      · rintro (z | z)
        · exact absurd ((congrArg Prod.fst z).trans q) h
        · exact .inr z
    · rw [List.mem_cons, List.mem_cons, add1_out h]
theorem add1_in : ∀ {A : List Ln} {y : Ln} {e : Int}, A.Pairwise (fun x y => x.1 ≠ y.1) → ((y.1, e) ∈ add1 A y ↔ (∃ e0, (y.1, e0) ∈ A ∧ e = e0 + y.2) ∨ ((∀ e0, (y.1, e0) ∉ A) ∧ e = y.2))
  | [], y, e, _ => by
    rw [add1, List.mem_singleton]
    constructor
    · intro z; exact .inr ⟨(fun _ w => nomatch w), congrArg Prod.snd z⟩
    · rintro (⟨_, z, _⟩ | ⟨_, rfl⟩)
      · exact nomatch z
      · rfl
  | x :: r, y, e, h => by
    obtain ⟨h1, h2⟩ := List.pairwise_cons.mp h
    have ih := add1_in (A := r) (y := y) (e := e) h2
    rw [add1]
    split
    · rename_i q
      rw [List.mem_cons]
      have nr : ∀ e0, (y.1, e0) ∉ r := fun e0 z => h1 _ z q
      constructor
      · rintro (z | z)
        · exact .inl ⟨x.2, List.mem_cons.mpr (.inl (by rw [← q])), congrArg Prod.snd z⟩
        · exact absurd z (nr e)
      · rintro (⟨e0, z, rfl⟩ | ⟨z, _⟩)
        · rcases List.mem_cons.mp z with z | z
          · refine .inl ?_
            have := congrArg Prod.snd z
            simp only at this
            rw [q, this]
          · exact absurd z (nr e0)
        · exact absurd (List.mem_cons.mpr (.inl (by rw [← q]))) (z x.2)
    · rename_i q
      have nx : ∀ e0, (y.1, e0) ≠ x := fun e0 z => q (congrArg Prod.fst z).symm
      rw [List.mem_cons, ih]
      constructor
      · rintro (z | ⟨e0, z, k⟩ | ⟨z, k⟩)
        · exact absurd z (nx e)
        · exact .inl ⟨e0, List.mem_cons_of_mem _ z, k⟩
        · exact .inr ⟨fun e0 w => (List.mem_cons.mp w).elim (nx e0) (z e0), k⟩
      · rintro (⟨e0, z, k⟩ | ⟨z, k⟩)
        · exact .inr (.inl ⟨e0, (List.mem_cons.mp z).resolve_left (nx e0), k⟩)
        · exact .inr (.inr ⟨fun e0 w => z e0 (List.mem_cons_of_mem _ w), k⟩)
theorem Rp.add {A : List Ln} {φ : (Int × Int) → Int} (r : Rp A φ) (nn : ∀ σ, 0 ≤ φ σ) {y : Ln} (hy : 0 < y.2) : Rp (add1 A y) (fun σ => if σ = y.1 then φ σ + y.2 else φ σ) := by
  refine ⟨add1_nd r.nd, fun σ e => ?_⟩
  by_cases q : σ = y.1
  · subst q
    have n0 := nn y.1
    simp only [if_true]
    rw [add1_in r.nd]
    constructor
    · rintro (⟨e0, z, rfl⟩ | ⟨z, rfl⟩)
      · obtain ⟨a, b⟩ := (r.iff _ _).mp z
        exact ⟨by rw [a], by omega⟩
      · have : φ y.1 = 0 := Classical.byContradiction fun w => z (φ y.1) ((r.iff _ _).mpr ⟨rfl, by omega⟩)
        exact ⟨by omega, hy⟩
    · rintro ⟨a, b⟩
      by_cases w : φ y.1 = 0
      · refine .inr ⟨fun e0 z => ?_, by omega⟩
        obtain ⟨c, d⟩ := (r.iff _ _).mp z
        omega
      · exact .inl ⟨φ y.1, (r.iff _ _).mpr ⟨rfl, by omega⟩, by omega⟩
  · rw [if_neg q, add1_out q]
    exact r.iff σ e
theorem Rp.mrg {ψ : (Int × Int) → Int} : ∀ {B A : List Ln} {φ : (Int × Int) → Int}, Rp A φ → (∀ σ, 0 ≤ φ σ) → B.Pairwise (fun x y => x.1 ≠ y.1) → (∀ x ∈ B, 0 < x.2 ∧ ψ x.1 = x.2) → (∀ σ, (∀ x ∈ B, x.1 ≠ σ) → ψ σ = 0) → Rp (mrg A B) (fun σ => φ σ + ψ σ)
  | [], A, φ, r, nn, _, _, hz => by
    have e : (fun σ => φ σ + ψ σ) = φ := by
      funext σ
      rw [hz σ (fun _ h => nomatch h)]; omega
    rw [e]; exact r
  | y :: B, A, φ, r, nn, hp, hv, hz => by
    obtain ⟨h1, h2⟩ := List.pairwise_cons.mp hp
    obtain ⟨y0, ye⟩ := hv y (by simp)
    have r1 := r.add nn y0
    have ih := Rp.mrg (ψ := fun σ => if σ = y.1 then 0 else ψ σ) (B := B) r1 (fun σ => by
      have := nn σ
      show 0 ≤ (if σ = y.1 then φ σ + y.2 else φ σ)
      split <;> omega) h2 (fun x hx => by
      obtain ⟨a, b⟩ := hv x (by simp [hx])
      refine ⟨a, ?_⟩
      rw [if_neg (fun z => h1 x hx z.symm)]; exact b) (fun σ hs => by
      show (if σ = y.1 then 0 else ψ σ) = 0
      split
      · rfl
      · rename_i q
        exact hz σ fun x hx => by
          rcases List.mem_cons.mp hx with rfl | hx
          · exact fun z => q z.symm
          · exact hs x hx)
    have e : (fun σ => (if σ = y.1 then φ σ + y.2 else φ σ) + (if σ = y.1 then 0 else ψ σ)) = (fun σ => φ σ + ψ σ) := by
      funext σ
      split
      · rename_i q
        rw [q, ye]; omega
      · rfl
    have ih : Rp (Tr.mrg (add1 A y) B) (fun σ => (if σ = y.1 then φ σ + y.2 else φ σ) + (if σ = y.1 then 0 else ψ σ)) := ih
    rw [e] at ih
    exact ih
theorem Rp.perm {A B : List Ln} {φ : (Int × Int) → Int} (a : Rp A φ) (b : Rp B φ) : A.Perm B := by
  have nd : ∀ {l : List Ln}, l.Pairwise (fun x y => x.1 ≠ y.1) → l.Nodup := fun h => h.imp fun h z => h (by rw [z])
  have sb : ∀ {A B : List Ln}, Rp A φ → Rp B φ → ∀ x ∈ A, x ∈ B := fun {A B} a b x hx => (b.iff x.1 x.2).mpr ((a.iff x.1 x.2).mp hx)
  exact GF.sub_perm (nd a.nd) (sb a b) (GF.nodup_le (nd b.nd) (sb b a))
/-- sides with their lengths -/
def lns (S : List Sd) : List Ln := S.map fun x => (x.2.2, (x.2.1 : Int) - (x.1 : Int))
open Classical in
/-- how long the line's side of a slope is -/
noncomputable def fcl (L : List Sz) (σ : Int × Int) : Int := if h : Low σ ∧ ∃ n : Int, ∃ h a b, Face L (val σ) h a b ∧ a ≤ b ∧ n = (b : Int) - (a : Int) then h.2.choose else 0
theorem fcl_eq {L : List Sz} {σ : Int × Int} (lo : Low σ) {h : Rat} {a b : Nat} (f : Face L (val σ) h a b) (ab : a ≤ b) : fcl L σ = (b : Int) - (a : Int) := by
  have hh : Low σ ∧ ∃ n : Int, ∃ h a b, Face L (val σ) h a b ∧ a ≤ b ∧ n = (b : Int) - (a : Int) := ⟨lo, _, h, a, b, f, ab, rfl⟩
  unfold fcl
  rw [dif_pos hh]
  obtain ⟨h', a', b', g, _, e⟩ := hh.2.choose_spec
  obtain ⟨_, e1, e2⟩ := g.uniq f
  rw [e, e1, e2]
theorem fcl_no {L : List Sz} {σ : Int × Int} (h : ¬ Low σ) : fcl L σ = 0 := by
  unfold fcl
  rw [dif_neg fun z => h z.1]
theorem Lns.nn {L : List Sz} {S : List Sd} (l : Lns L S) (σ : Int × Int) : 0 ≤ fcl L σ := by
  by_cases lo : Low σ
  · obtain ⟨h, a, b, f, ab⟩ := l.face (val σ)
    rw [fcl_eq lo f ab]; omega
  · rw [fcl_no lo]; omega
theorem Lns.rp {L : List Sz} {S : List Sd} (l : Lns L S) : Rp (lns S) (fcl L) := by
  refine ⟨?_, fun σ e => ?_⟩
  · unfold lns
    rw [List.pairwise_map]
    exact l.pw.imp fun {x y} h z => by
      have z : x.2.2 = y.2.2 := z
      rw [z] at h
      exact absurd h (Rat.lt_irrefl)
  · constructor
    · intro h
      obtain ⟨x, hx, ex⟩ := List.mem_map.mp h
      obtain ⟨lo, lt, hh, f⟩ := l.mem x hx
      have e1 : x.2.2 = σ := congrArg Prod.fst ex
      have e2 : (x.2.1 : Int) - (x.1 : Int) = e := congrArg Prod.snd ex
      rw [e1] at lo f
      rw [fcl_eq lo f (by omega)]
      exact ⟨e2, by omega⟩
    · rintro ⟨h1, h2⟩
      by_cases lo : Low σ
      · obtain ⟨h, a, b, f, ab⟩ := l.face (val σ)
        rw [fcl_eq lo f ab] at h1
        have := l.side lo f (by omega)
        exact List.mem_map.mpr ⟨_, this, by rw [← h1]⟩
      · rw [fcl_no lo] at h1; omega
/-- the sides of what is put together -/
theorem lns_join {L M : List Sz} {S T U : List Sd} (hL : Szs L) (hM : Szs M) (a : Lns L S) (b : Lns M T) (c : Lns (jn L M) U) : (lns U).Perm (mrg (lns S) (lns T)) := by
  have r := (a.rp).mrg (ψ := fcl M) (B := lns T) a.nn b.rp.nd (fun x hx => by
    obtain ⟨h1, h2⟩ := (b.rp.iff x.1 x.2).mp hx
    exact ⟨h2, h1⟩) (fun σ hs => by
    refine Classical.byContradiction fun z => ?_
    have := b.nn σ
    exact hs (σ, fcl M σ) ((b.rp.iff _ _).mpr ⟨rfl, by omega⟩) rfl)
  have e : (fun σ => fcl L σ + fcl M σ) = fcl (jn L M) := by
    funext σ
    by_cases lo : Low σ
    · obtain ⟨h1, a1, b1, f1, ab1⟩ := a.face (val σ)
      obtain ⟨h2, a2, b2, f2, ab2⟩ := b.face (val σ)
      rw [fcl_eq lo f1 ab1, fcl_eq lo f2 ab2, fcl_eq lo (face_join hL hM f1 f2) (by omega)]
      omega
    · rw [fcl_no lo, fcl_no lo, fcl_no lo]; omega
  rw [e] at r
  exact c.rp.perm r
end Tr
namespace Tr
open PySem L2
def Dat : Nat → D → Prop
  | 0, d => d = .non ∨ ∃ i, d = .int i
  | n + 1, d => (d = .non ∨ ∃ i, d = .int i) ∨ ∃ xs, (d = .lst xs ∨ d = .tup xs) ∧ xs.length ≤ 1000000 ∧ ∀ x ∈ xs, Dat n x
theorem Dat.int (n : Nat) (i : Int) : Dat n (.int i) := by cases n; exact .inr ⟨i, rfl⟩; exact .inl (.inr ⟨i, rfl⟩)
theorem Dat.non (n : Nat) : Dat n .non := by cases n; exact .inl rfl; exact .inl (.inl rfl)
theorem Dat.lst {n : Nat} {xs : List D} (hl : xs.length ≤ 1000000) (h : ∀ x ∈ xs, Dat n x) : Dat (n + 1) (.lst xs) := .inr ⟨xs, .inl rfl, hl, h⟩
theorem Dat.tup {n : Nat} {xs : List D} (hl : xs.length ≤ 1000000) (h : ∀ x ∈ xs, Dat n x) : Dat (n + 1) (.tup xs) := .inr ⟨xs, .inr rfl, hl, h⟩
theorem Dat.mono : ∀ {n m : Nat} {d : D}, Dat n d → n ≤ m → Dat m d := fun {n} => by
  induction n with
  | zero =>
    rintro m d (rfl | ⟨i, rfl⟩) _
    · exact Dat.non m
    · exact Dat.int m i
  | succ n ih =>
    rintro m d ((rfl | ⟨i, rfl⟩) | ⟨xs, hd, hl, hx⟩) h
    · exact Dat.non m
    · exact Dat.int m i
    · obtain ⟨k, rfl⟩ : ∃ k, m = k + 1 := ⟨m - 1, by lia⟩
      exact .inr ⟨xs, hd, hl, fun x hm => ih (hx x hm) (by lia)⟩
theorem dat_good : ∀ (n : Nat) (d : D), Dat n d → D.good n d = true := fun n => by
  induction n with
  | zero =>
    rintro d (rfl | ⟨i, rfl⟩)
    · simp
    · simp
  | succ n ih =>
    have gs : ∀ xs : List D, (∀ x ∈ xs, Dat n x) → D.goods n xs = true := fun xs => by
      induction xs with
      | nil => intro _; simp
      | cons x xs ih2 => intro h; rw [goods_cons, ih x (h x (by simp)), ih2 fun y hy => h y (by simp [hy])]; rfl
    rintro d ((rfl | ⟨i, rfl⟩) | ⟨xs, rfl | rfl, hl, hx⟩)
    · simp
    · simp
    · rw [good_lst]; exact gs xs hx
    · rw [good_tup]; exact gs xs hx
theorem eqv_bool {n : Nat} {a b : D} (h : PyData.eqv a.py b.py = true ↔ a = b) : PyData.eqv a.py b.py = ok (a = b) := by
  cases e : ok (a = b)
  · cases e2 : PyData.eqv a.py b.py
    · rfl
    · rw [ok_of (h.mp e2)] at e; cases e
  · exact h.mpr (of_ok e)
theorem dat_eqv : ∀ (n : Nat) (a b : D), Dat n a → Dat n b → (PyData.eqv a.py b.py = true ↔ a = b) := fun n => by
  have base : ∀ a b : D, (a = .non ∨ ∃ i, a = .int i) → (b = .non ∨ ∃ i, b = .int i) → (PyData.eqv a.py b.py = true ↔ a = b) := by
    rintro a b (rfl | ⟨i, rfl⟩) (rfl | ⟨j, rfl⟩)
    · simp [D.py, PyData.eqv]
    · simp [D.py, PyData.eqv]
    · simp [D.py, PyData.eqv]
    · rw [py_int, py_int, eqv_int]; simp
  induction n with
  | zero => exact base
  | succ n ih =>
    have all : ∀ xs ys : List D, (∀ x ∈ xs, Dat n x) → (∀ y ∈ ys, Dat n y) → (PyData.eqvAll (D.pys xs) (D.pys ys) = true ↔ xs = ys) := fun xs => by
      induction xs with
      | nil =>
        intro ys _ _
        cases ys with
        | nil => simp
        | cons y ys => simp [PyData.eqvAll]
      | cons x xs ih2 =>
        intro ys hx hy
        cases ys with
        | nil => simp [PyData.eqvAll]
        | cons y ys =>
          rw [pys_cons, pys_cons, eqvAll_cons, Bool.and_eq_true, ih x y (hx x (by simp)) (hy y (by simp)), ih2 ys (fun z hz => hx z (by simp [hz])) (fun z hz => hy z (by simp [hz])), List.cons.injEq]
    rintro a b (ha | ⟨xs, ha, hl, hx⟩) (hb | ⟨ys, hb, hm, hy⟩)
    · exact base a b ha hb
    · rcases ha with rfl | ⟨i, rfl⟩ <;> rcases hb with rfl | rfl <;> simp [D.py, PyData.eqv]
    · rcases hb with rfl | ⟨i, rfl⟩ <;> rcases ha with rfl | rfl <;> simp [D.py, PyData.eqv]
    · have q := all xs ys hx hy
      rcases ha with rfl | rfl <;> rcases hb with rfl | rfl
      · rw [py_lst, py_lst, eqv_lst, q]; simp
      · simp [PyData.eqv]
      · simp [PyData.eqv]
      · rw [py_tup, py_tup, eqv_tup, q]; simp
theorem opEq_dat {n : Nat} {a b : D} {m p : Mode} (ha : Dat n a) (hb : Dat n b) (hn : n ≤ 60) : opEq [⟨m, a⟩, ⟨p, b⟩] = some ⟨.O, .bl (ok (a = b))⟩ := by
  rw [opEq_ap, if_pos (by simp [pyOk_of (dat_good n a ha) hn, pyOk_of (dat_good n b hb) hn])]
  rw [eqv_bool (n := n) (dat_eqv n a b ha hb)]
theorem opNe_dat {n : Nat} {a b : D} {m p : Mode} (ha : Dat n a) (hb : Dat n b) (hn : n ≤ 60) : opNe [⟨m, a⟩, ⟨p, b⟩] = some ⟨.O, .bl (!ok (a = b))⟩ := by
  rw [opNe_ap, if_pos (by simp [pyOk_of (dat_good n a ha) hn, pyOk_of (dat_good n b hb) hn])]
  rw [eqv_bool (n := n) (dat_eqv n a b ha hb)]
end Tr
namespace Tr
open PySem L2
def slD (σ : Int × Int) : D := .tup [.int σ.1, .int σ.2]
def lnD (x : Ln) : D := .lst [slD x.1, .int x.2]
theorem lnD_flat (x : Ln) : (lnD x).flat = false := rfl
theorem slD_flat (σ : Int × Int) : (slD σ).flat = true := rfl
theorem slD_dat (n : Nat) (σ : Int × Int) : Dat (n + 1) (slD σ) := .tup (by simp) fun x hx => by
  rcases List.mem_cons.mp hx with rfl | hx
  · exact Dat.int _ _
  · obtain rfl := List.mem_singleton.mp hx; exact Dat.int _ _
theorem lnD_dat (n : Nat) (x : Ln) : Dat (n + 2) (lnD x) := .lst (by simp) fun y hy => by
  rcases List.mem_cons.mp hy with rfl | hy
  · exact slD_dat n _
  · obtain rfl := List.mem_singleton.mp hy; exact Dat.int _ _
theorem slD_inj {σ τ : Int × Int} (h : slD σ = slD τ) : σ = τ := by
  simp [slD] at h
  exact Prod.ext h.1 h.2
theorem ev_lengths {S : List Sd} (hl : S.length ≤ 1000) : m_u_law_lengths [dl sd S] = some ⟨.O, dl lnD (lns S)⟩ := by
  have big := sizeLine_big
  obtain ⟨ρ', e, x2, x3, x4, rfl⟩ := sFor_list (src := iSq (sVar 0)) (g := sGTup (sGCons (sGName 2) (sGCons (sGName 3) (sGCons (sGName 4) sGNil)))) (b := w_u_law_lengths_1) (f := sd) (xs := S)
    (ρ := [some ⟨.F, false, dl sd S⟩, some ⟨.O, false, .lst []⟩, none, none, none])
    (fun j ρ => ∃ x2 x3 x4, ρ = [some ⟨.F, false, dl sd S⟩, some ⟨.O, false, dl lnD (lns (S.take j))⟩, x2, x3, x4])
    (by simp [dl, D.flat]; rfl) ⟨none, none, none, by simp [dl, lns]⟩ (by
      rintro j x ρ hx ⟨x2, x3, x4, rfl⟩
      have lj := lt_of_get hx
      have tk : S.take (j + 1) = S.take j ++ [x] := by rw [List.take_succ, hx]; rfl
      have e1 : lns (S.take (j + 1)) = lns (S.take j) ++ [(x.2.2, (x.2.1 : Int) - (x.1 : Int))] := by rw [tk]; simp [lns]
      have ea := apnd_O (h := lnD) (lk := false) (x := (x.2.2, (x.2.1 : Int) - (x.1 : Int))) (xs := lns (S.take j)) (ok_of (by simp [lns]; omega))
      have el : lnD (x.2.2, (x.2.1 : Int) - (x.1 : Int)) = .lst [.tup [.int x.2.2.1, .int x.2.2.2], .int ((x.2.1 : Int) - (x.1 : Int))] := rfl
      rw [el] at ea
      rw [e1, once_ap]
      generalize lns (S.take j) = Z at ea ⊢
      simp [w_u_law_lengths_1, sd, nrm, D.flat, D.flats, ea])
  have e : lp_u_law_lengths_1 _ = _ := e
  rw [List.take_length] at e
  have pS : par (dl sd S) = ⟨.F, false, dl sd S⟩ := rfl
  have f2 : (dl lnD (lns S)).flat = false := rfl
  generalize dl lnD (lns S) = R at e f2 ⊢
  generalize dl sd S = SS at e pS ⊢
  simp only [m_u_law_lengths, fnSem, b_u_law_lengths]
  simp [pS, e, f2]
theorem add1_idx : ∀ {F : List Ln} {y : Ln}, match (F.map fun x => ok (x.1 = y.1)).findIdx? id with
    | none => add1 F y = F ++ [y]
    | some k => ∃ x, F[k]? = some x ∧ add1 F y = F.set k (x.1, x.2 + y.2)
  | [], y => by simp [add1]
  | z :: r, y => by
    have ih := add1_idx (F := r) (y := y)
    rw [List.map_cons, List.findIdx?_cons]
    by_cases q : z.1 = y.1
    · simp only [id, ok_of q, if_true]
      exact ⟨z, rfl, by rw [add1, if_pos q]; rfl⟩
    · have q2 : ok (z.1 = y.1) = false := by
        cases e : ok (z.1 = y.1) with
        | false => rfl
        | true => exact absurd (of_ok e) q
      simp only [id, q2, Bool.false_eq_true, if_false]
      cases h : (r.map fun x => ok (x.1 = y.1)).findIdx? id with
      | none =>
        rw [h] at ih
        have h2 : List.findIdx? (fun b => b) (List.map (fun x => ok (x.1 = y.1)) r) = none := h
        simp only [h2, Option.map_none]
        rw [add1, if_neg q, ih]; rfl
      | some k =>
        rw [h] at ih
        obtain ⟨x, hx, e⟩ := ih
        have h2 : List.findIdx? (fun b => b) (List.map (fun x => ok (x.1 = y.1)) r) = some k := h
        simp only [h2, Option.map_some]
        exact ⟨x, by simpa using hx, by rw [add1, if_neg q, e]; rfl⟩
noncomputable abbrev TFp : SB := sTest (sApp2 opEq (sApp2 opIdx (sVar 3) (sCon (.int 0))) (sVar 4))
noncomputable abbrev FAp : SS := sApnd 2 (sApp opLst (sCons (sMove 4) (sCons (sMove 5) sNil)))
theorem eq_sl {m p : Mode} {σ τ : Int × Int} : opEq [⟨m, slD σ⟩, ⟨p, slD τ⟩] = some ⟨.O, .bl (ok (σ = τ))⟩ := by
  rw [opEq_dat (slD_dat 1 σ) (slD_dat 1 τ) (by omega)]
  by_cases q : σ = τ
  · rw [ok_of q, ok_of (by rw [q])]
  · have h1 : ok (σ = τ) = false := by
      cases e : ok (σ = τ) with
      | false => rfl
      | true => exact absurd (of_ok e) q
    have h2 : ok (slD σ = slD τ) = false := by
      cases e : ok (slD σ = slD τ) with
      | false => rfl
      | true => exact absurd (slD_inj (of_ok e)) q
    rw [h1, h2]
theorem pk_all {Z : List Ln} {y : Ln} {a0 a1 a3 a5 a6 : Option Slot} : ∀ (F : List Ln), pkAll 3 [2, 4] TFp [a0, a1, some ⟨.O, false, dl lnD Z⟩, a3, some ⟨.O, false, slD y.1⟩, a5, a6] (F.map lnD) = some (F.map fun x => ok (x.1 = y.1))
  | [] => rfl
  | x :: F => by
    have ih := pk_all (Z := Z) (y := y) (a0 := a0) (a1 := a1) (a3 := a3) (a5 := a5) (a6 := a6) F
    rw [List.map_cons, List.map_cons, pkAll]
    have hd : (hide [2, 4] [] [3] [a0, a1, some ⟨.O, false, dl lnD Z⟩, a3, some ⟨.O, false, slD y.1⟩, a5, a6]).set 3 (some (par (lnD x))) = [none, none, some ⟨.F, false, dl lnD Z⟩, some ⟨.F, false, lnD x⟩, some ⟨.O, false, slD y.1⟩, none, none] := by
      have p1 : par (dl lnD Z) = ⟨.F, false, dl lnD Z⟩ := rfl
      have p2 : par (lnD x) = ⟨.F, false, lnD x⟩ := rfl
      have p3 : par (slD y.1) = ⟨.O, false, slD y.1⟩ := rfl
      simp [hide, view1, List.mapIdx_cons, p1, p2, p3]
    rw [hd]
    have ix : ∀ q, opIdx [⟨.F, lnD x⟩, ⟨q, .int 0⟩] = some ⟨.O, slD x.1⟩ := fun q => by
      simp [lnD, opIdx, atI, ixN, nrm, slD_flat]
    have eq := fun m q => eq_sl (m := m) (p := q) (σ := x.1) (τ := y.1)
    have f1 := lnD_flat x
    have f2 := slD_flat y.1
    have f3 := slD_flat x.1
    generalize lnD x = X at ix f1 ⊢
    generalize slD x.1 = S1 at ix eq f3
    generalize slD y.1 = S2 at eq f2 ih ⊢
    rw [ih]
    simp [f1, f2, ix, f3, eq]
theorem pick_ok {F : List Ln} {y : Ln} (hl : F.length ≤ 1000) {a0 a1 a3 a6 : Option Slot} : sPick 2 3 6 5 [2, 4] TFp FAp [a0, a1, some ⟨.O, false, dl lnD F⟩, a3, some ⟨.O, false, slD y.1⟩, some ⟨.O, false, .int y.2⟩, a6] = some (.nx [a0, a1, some ⟨.O, false, dl lnD (add1 F y)⟩, a3, some ⟨.O, false, slD y.1⟩, some ⟨.O, false, .int y.2⟩, none]) := by
  have big := sizeLine_big
  have pa := pk_all (Z := F) (y := y) (a0 := a0) (a1 := a1) (a3 := a3) (a5 := some ⟨.O, false, .int y.2⟩) (a6 := a6) F
  have ad := add1_idx (F := F) (y := y)
  obtain ⟨bs, hbs⟩ : ∃ bs, bs = F.map fun x => ok (x.1 = y.1) := ⟨_, rfl⟩
  rw [← hbs] at pa ad
  have lbs : bs.length = F.length := by rw [hbs, List.length_map]
  have datp : ∀ (ds : List D) (bs : List Bool), (∀ d ∈ ds, Dat 4 d) → ∀ d ∈ pkd ds bs, Dat 4 d := fun ds => by
    induction ds with
    | nil => intro bs _ d hd; simp [pkd] at hd
    | cons x ds ih =>
      intro bs h d hd
      cases bs with
      | nil => simp [pkd] at hd
      | cons b bs =>
        rw [pkd] at hd
        split at hd
        · rcases List.mem_cons.mp hd with rfl | hd
          · exact h _ (by simp)
          · exact ih bs (fun z hz => h z (by simp [hz])) d hd
        · exact ih bs (fun z hz => h z (by simp [hz])) d hd
  have heq : opEq [⟨.F, .lst (pkd (F.map lnD) bs)⟩, ⟨.O, .lst []⟩] = some ⟨.O, .bl (bs.findIdx? id).isNone⟩ := by
    have pl := pkd_len (xs := F.map lnD) (bs := bs)
    rw [List.length_map] at pl
    rw [opEq_dat (n := 5) (.lst (by omega) (datp _ _ fun d hd => by
      obtain ⟨x, _, rfl⟩ := List.mem_map.mp hd
      exact lnD_dat 2 x)) (.lst (by simp) (by simp)) (by omega)]
    cases h : bs.findIdx? id with
    | none => rw [pkd_none h, ok_of rfl]; rfl
    | some k =>
      rw [h] at ad
      obtain ⟨x, hx, _⟩ := ad
      obtain ⟨r, er⟩ := pkd_some (xs := F.map lnD) (bs := bs) h (x := lnD x) (by rw [List.getElem?_map, hx]; rfl)
      have : ok (D.lst (pkd (F.map lnD) bs) = D.lst []) = false := by
        cases e : ok (D.lst (pkd (F.map lnD) bs) = D.lst []) with
        | false => rfl
        | true =>
          have := D.lst.inj (of_ok e)
          rw [er] at this
          cases this
      rw [this]; rfl
  have c1 : (ok ((2 : Nat) ∈ [2, 4] ∧ (2 : Nat) ≠ 3 ∧ (2 : Nat) ≠ 6 ∧ (3 : Nat) ≠ 6 ∧ (5 : Nat) ≠ 6 ∧ (5 : Nat) ≠ 2 ∧ 6 < ([a0, a1, some ⟨.O, false, dl lnD F⟩, a3, some ⟨.O, false, slD y.1⟩, some ⟨.O, false, .int y.2⟩, a6] : Env).length ∧ 3 < ([a0, a1, some ⟨.O, false, dl lnD F⟩, a3, some ⟨.O, false, slD y.1⟩, some ⟨.O, false, .int y.2⟩, a6] : Env).length ∧ (F.map lnD).length < sizeLine)) = true := ok_of (by simp; omega)
  have c2 : ok (∀ bs, pkAll 3 [2, 4] TFp [a0, a1, some ⟨.O, false, dl lnD F⟩, a3, some ⟨.O, false, slD y.1⟩, some ⟨.O, false, .int y.2⟩, a6] (F.map lnD) = some bs → opEq [⟨.F, .lst (pkd (F.map lnD) bs)⟩, ⟨.O, .lst []⟩] = some ⟨.O, .bl (bs.findIdx? id).isNone⟩) = true := ok_of fun bs' h => by
    rw [pa] at h
    cases h
    exact heq
  unfold sPick
  show (if (_ && _) = true then _ else none) = _
  rw [c1, c2, pa]
  simp only [Bool.and_self, if_true]
  cases h : bs.findIdx? id with
  | none =>
    rw [h] at ad
    have ea := apnd_O (h := lnD) (lk := false) (x := y) (xs := F) (ok_of (by omega))
    have el : lnD y = .lst [slD y.1, .int y.2] := rfl
    have f2 := slD_flat y.1
    have ol : ∀ m1 m2, opLst [⟨m1, slD y.1⟩, ⟨m2, .int y.2⟩] = some ⟨if m1 = .O ∧ m2 = .O then .O else .S, .lst [slD y.1, .int y.2]⟩ := fun m1 m2 => by
      show (if ok (2 ≤ sizeLine) then _ else none) = _
      rw [if_pos (ok_of (by omega))]
      cases m1 <;> cases m2 <;> rfl
    rw [el] at ea
    rw [ad]
    show FAp _ = _
    have il : isLst (some (some ⟨.O, false, dl lnD F⟩)) = true := rfl
    generalize dl lnD (F ++ [y]) = R at ea ⊢
    generalize dl lnD F = Q at ea il ⊢
    generalize slD y.1 = S1 at ea f2 ol ⊢
    simp [f2, ol, ea, il]
  | some k =>
    rw [h] at ad
    obtain ⟨x, hx, e⟩ := ad
    have lk := lt_of_get hx
    have hd : (F.map lnD)[k]? = some (.lst [slD x.1, .int x.2]) := by rw [List.getElem?_map, hx]; rfl
    simp only [hd]
    show some (Out.nx _) = some (Out.nx _)
    have es : dl lnD (add1 F y) = .lst ((F.map lnD).set k (.lst [slD x.1, .int (x.2 + y.2)])) := by
      rw [e]
      show D.lst ((F.set k (x.1, x.2 + y.2)).map lnD) = _
      rw [List.map_set]; rfl
    rw [es]
    rfl
theorem ev_merged {A B : List Ln} (ha : A.length ≤ 400) (hb : B.length ≤ 400) : m_u_law_merged [dl lnD A, dl lnD B] = some ⟨.O, dl lnD (mrg A B)⟩ := by
  have big := sizeLine_big
  have pA : par (dl lnD A) = ⟨.F, false, dl lnD A⟩ := rfl
  have pB : par (dl lnD B) = ⟨.F, false, dl lnD B⟩ := rfl
  have lc := sLc_dl (ρ := [some ⟨.F, false, dl lnD A⟩, some ⟨.F, false, dl lnD B⟩, none, none, none, none, none]) (ls := []) (vs := [3]) (src := iSq (sVar 0)) (g := sGName 3) (e := sApp opList (sCons (sVar 3) sNil)) (xs := A) (f := lnD) (h := lnD)
    (fun x => [none, none, none, some ⟨.F, false, lnD x⟩, none, none, none]) (fun x => x)
    (by simp [iSq, dl, D.flat]) (by omega) (fun x hx => by
      have f1 := lnD_flat x
      generalize lnD x = X at f1 ⊢
      simp [hide, view1, List.mapIdx_cons, nrm, f1]) (fun x hx => by simp [hide, view1, wipeE, List.mapIdx_cons]) (fun x hx => by
      have ol : ∀ m, opList [⟨m, lnD x⟩] = some ⟨.O, lnD x⟩ := fun m => by
        show some (mkL [slD x.1, .int x.2]) = _
        rfl
      have f1 := lnD_flat x
      generalize lnD x = X at f1 ol ⊢
      simp [f1, ol])
  have lc : lc_u_law_merged_1 _ = _ := lc
  rw [List.map_id'] at lc
  have len1 : ∀ {F : List Ln} {y : Ln}, (add1 F y).length ≤ F.length + 1 := fun {F y} => by
    induction F with
    | nil => simp [add1]
    | cons z r ih =>
      rw [add1]
      split
      · simp
      · simp only [List.length_cons]; omega
  have lenm : ∀ j, (mrg A (B.take j)).length ≤ A.length + j := fun j => by
    have go : ∀ (B : List Ln) (A : List Ln), (mrg A B).length ≤ A.length + B.length := fun B => by
      induction B with
      | nil => intro A; simp [mrg]
      | cons y B ih =>
        intro A
        have h1 := ih (add1 A y)
        have h2 := len1 (F := A) (y := y)
        have h3 : mrg A (y :: B) = mrg (add1 A y) B := rfl
        rw [h3, List.length_cons]
        omega
    have := go (B.take j) A
    rw [List.length_take] at this
    omega
  obtain ⟨ρ', e, x4, x5, x6, rfl⟩ := sFor_list (src := iSq (sVar 1)) (g := sGLst (sGCons (sGName 4) (sGCons (sGName 5) sGNil))) (b := w_u_law_merged_1) (f := lnD) (xs := B)
    (ρ := [some ⟨.F, false, dl lnD A⟩, some ⟨.F, false, dl lnD B⟩, some ⟨.O, false, dl lnD A⟩, none, none, none, none])
    (fun j ρ => ∃ x4 x5 x6, ρ = [some ⟨.F, false, dl lnD A⟩, some ⟨.F, false, dl lnD B⟩, some ⟨.O, false, dl lnD (mrg A (B.take j))⟩, none, x4, x5, x6])
    (by simp [iSq, dl, D.flat]; rfl) ⟨none, none, none, rfl⟩ (by
      rintro j y ρ hy ⟨x4, x5, x6, rfl⟩
      have lj := lt_of_get hy
      have tk : mrg A (B.take (j + 1)) = add1 (mrg A (B.take j)) y := by
        have : B.take (j + 1) = B.take j ++ [y] := by rw [List.take_succ, hy]; rfl
        rw [this, mrg, List.foldl_append]; rfl
      have lm := lenm j
      rw [tk]
      generalize mrg A (B.take j) = F at lm ⊢
      have pk := pick_ok (F := F) (y := y) (by omega) (a0 := some ⟨.F, false, dl lnD A⟩) (a1 := some ⟨.F, false, dl lnD B⟩) (a3 := none) (a6 := x6)
      have pk : w_u_law_merged_1 _ = _ := pk
      have bind : (sGLst (sGCons (sGName 4) (sGCons (sGName 5) sGNil))) (nrm .F (lnD y)) [some ⟨.F, false, dl lnD A⟩, some ⟨.F, false, dl lnD B⟩, some ⟨.O, false, dl lnD F⟩, none, x4, x5, x6] = some [some ⟨.F, false, dl lnD A⟩, some ⟨.F, false, dl lnD B⟩, some ⟨.O, false, dl lnD F⟩, none, some ⟨.O, false, slD y.1⟩, some ⟨.O, false, .int y.2⟩, x6] := by
        have n1 : nrm .F (lnD y) = ⟨.F, lnD y⟩ := rfl
        rw [n1]
        have f1 := slD_flat y.1
        simp only [sGLst, lnD]
        generalize slD y.1 = S1 at f1 ⊢
        simp [nrm, f1, D.flat]
      rw [once_ap, bind]
      show nxIs (w_u_law_merged_1 _) _
      rw [pk]
      exact ⟨_, _, _, rfl⟩)
  have e : lp_u_law_merged_1 _ = _ := e
  rw [List.take_length] at e
  have f2 : (dl lnD (mrg A B)).flat = false := rfl
  have f3 : (dl lnD A).flat = false := rfl
  generalize dl lnD (mrg A B) = R at e f2 ⊢
  generalize dl lnD A = AA at e lc pA f3 ⊢
  generalize dl lnD B = BB at e lc pB ⊢
  simp only [m_u_law_merged, fnSem, b_u_law_merged]
  simp [pA, pB, lc, e, f2]
end Tr
namespace Tr
open PySem PySem.W PyProof.Rows L2 RZ
def bP (L : List Sz) : D → Bool
  | .int i => match L[i.toNat]? with | some (some _) => true | _ => false
  | _ => false
theorem begin_first {L : List Sz} {f : Nat} (h : First L f) : ∃ r, ((List.range L.length).map fun k : Nat => D.int (k : Int)).filter (bP L) = .int (f : Int) :: r := by
  obtain ⟨⟨u, hu⟩, h2⟩ := h
  have lf := lt_of_get hu
  obtain ⟨m, hm⟩ : ∃ m, L.length = f + (m + 1) := ⟨L.length - f - 1, by omega⟩
  rw [hm, List.range_add, List.map_append, List.filter_append]
  have e1 : ((List.range f).map fun k : Nat => D.int (k : Int)).filter (bP L) = [] := List.filter_eq_nil_iff.mpr fun d hd => by
    obtain ⟨k, hk, rfl⟩ := List.mem_map.mp hd
    have := h2 k (List.mem_range.mp hk)
    simp [bP, this]
  rw [e1, List.nil_append, List.range_succ_eq_map, List.map_cons, List.map_cons, List.filter_cons_of_pos (by simp [bP, hu])]
  exact ⟨_, rfl⟩
theorem ev_begin {L : List Sz} {f : Nat} (h : First L f) (hl : L.length ≤ 100) : m_u_law_begin [dl fo L] = some ⟨.O, .int (f : Int)⟩ := by
  obtain ⟨r, hr⟩ := begin_first h
  have sn : small (L.length : Int) = true := small_of (by omega)
  have q := sLc_gen (ρ := [some ⟨.F, false, dl fo L⟩, none]) (ls := [0]) (vs := [1]) (src := iRange1 (sCons (sApp opLen (sCons (sVar 0) sNil)) sNil)) (g := sGName 1) (t := sTest (sApp2 opNotN (sApp2 opIdx (sVar 0) (sVar 1)) (sCon .non))) (f := sVar 1) (ds := (List.range L.length).map fun k : Nat => D.int (k : Int))
    (fun d => [some ⟨.F, false, dl fo L⟩, some ⟨.O, false, d⟩]) (bP L) (fun d => d) (ρ1 := [some ⟨.F, false, dl fo L⟩, none])
    (by simp [sn, up_dl]) (by simp) (by simpa using sizeN (show L.length ≤ 1000 by omega))
    (fun d hd => by
      obtain ⟨k, hk, rfl⟩ := List.mem_map.mp hd
      simp [hide, view1, List.mapIdx_cons])
    (fun d hd => by
      obtain ⟨k, hk, rfl⟩ := List.mem_map.mp hd
      simp [hide, view1, wipeE, List.mapIdx_cons])
    (fun d hd => by
      obtain ⟨k, hk, rfl⟩ := List.mem_map.mp hd
      have hk := List.mem_range.mp hk
      obtain ⟨x, hx⟩ : ∃ x, L[k]? = some x := ⟨_, List.getElem?_eq_getElem hk⟩
      have ix := fun m p => idx_fo (m := m) (p := p) hx
      cases x with
      | none => simp [ix, fo, bP, hx]
      | some u =>
        obtain ⟨p, q⟩ := u
        simp [ix, fo, bP, hx])
    (fun d hd _ => by
      obtain ⟨k, hk, rfl⟩ := List.mem_map.mp hd
      simp)
  have e : lc_u_law_begin_1 [some ⟨.F, false, dl fo L⟩, none] = _ := q
  rw [hr] at e
  simp only [m_u_law_begin, fnSem, b_u_law_begin]
  simp [e, idx_head]
theorem toks_alikeL {x y : PyData} (h : alike x y = true) (e : keyToks x = keyToks y) : PyData.eqv x y = true := by
  cases z : PyData.eqv x y with
  | true => rfl
  | false =>
    exfalso
    have q := (toks_eqv x y h).2 z [.inl 0] [.inl 1]
    rw [e, lex_pre, lex_irrefl] at q
    cases q
theorem leL_trans {a b c : D} : leD a b = true → leD b c = true → leD a c = true := (sortLe_total (listOrd itemOrd) false fun d : D => keyToks d.py).trans a b c
theorem leL_total (a b : D) : leD a b = true ∨ leD b a = true := (sortLe_total (listOrd itemOrd) false fun d : D => keyToks d.py).total a b
theorem leL_eq (a b : D) : leD a b = !dataLt b.py a.py := by
  unfold leD
  rw [dataLe_eq]
  rfl
theorem ln_alike (x y : Ln) : alike (lnD x).py (lnD y).py = true := rfl
theorem lnD_inj {x y : Ln} (h : lnD x = lnD y) : x = y := by
  simp [lnD] at h
  exact Prod.ext (slD_inj h.1) h.2
noncomputable def srtL (F : List Ln) : List Ln := F.mergeSort fun a b => leD (lnD a) (lnD b)
theorem sortL (F : List Ln) : sortD (F.map lnD) = (srtL F).map lnD := (sort_maps (s := leD) lnD fun _ _ _ _ => rfl).symm
theorem srtL_perm (F : List Ln) : (srtL F).Perm F := List.mergeSort_perm F _
theorem srtL_up (F : List Ln) : (srtL F).Pairwise fun a b => leD (lnD a) (lnD b) = true :=
  List.pairwise_mergeSort (le := fun a b => leD (lnD a) (lnD b)) (fun a b c h1 h2 => leL_trans h1 h2) (fun a b => by
    rcases leL_total (lnD a) (lnD b) with h | h <;> simp [h]) F
theorem srtL_eq {F G : List Ln} (h : F.Perm G) : srtL F = srtL G := by
  refine List.Perm.eq_of_pairwise (le := fun a b => leD (lnD a) (lnD b) = true) (fun a b ha hb h1 h2 => ?_) (srtL_up F) (srtL_up G) ((srtL_perm F).trans (h.trans (srtL_perm G).symm))
  rw [leL_eq] at h1 h2
  have g1 : dataLt (lnD b).py (lnD a).py = false := by simpa using h1
  have g2 : dataLt (lnD a).py (lnD b).py = false := by simpa using h2
  have e := toks_alikeL (ln_alike a b) (lex_total _ _ g2 g1)
  exact lnD_inj ((dat_eqv 4 _ _ (lnD_dat 2 a) (lnD_dat 2 b)).mp e)
theorem srtOk_ln {F : List Ln} (hl : F.length ≤ 1000) : SrtOk (F.map lnD) := by
  have big := sizeLine_big
  have gd : ∀ x : Ln, D.good 4 (lnD x) = true := fun x => dat_good 4 _ (lnD_dat 2 x)
  refine ⟨?_, fun a ha b hb => ?_, .inr fun a ha => ?_, fun a ha => ?_, by rw [List.length_map]; omega⟩
  · have : ∀ l : List Ln, D.plains (l.map lnD) = true := fun l => by
      induction l with
      | nil => rfl
      | cons x l ih =>
        rw [List.map_cons, D.plains, ih, (good_ok _ _ (gd x)).1]
        rfl
    exact this F
  · rw [List.map_map] at ha hb
    obtain ⟨x, _, rfl⟩ := List.mem_map.mp ha
    obtain ⟨y, _, rfl⟩ := List.mem_map.mp hb
    exact ln_alike x y
  · rw [List.map_map] at ha
    obtain ⟨x, _, rfl⟩ := List.mem_map.mp ha
    exact ⟨(fun z => nomatch z), fun xs z => nomatch z⟩
  · obtain ⟨x, hx, rfl⟩ := List.mem_map.mp ha
    have := (good_ok _ _ (gd x)).2.2
    omega
theorem mkL_mD (xs : List D) : ∃ m, mkL xs = ⟨m, .lst xs⟩ := by
  unfold mkL
  split
  · exact ⟨_, rfl⟩
  · exact ⟨_, rfl⟩
theorem ev_sortedL (F : List Ln) (hl : F.length ≤ 1000) : ∃ m, ∀ q, opSortD [⟨q, dl lnD F⟩] = some ⟨m, dl lnD (srtL F)⟩ := by
  obtain ⟨m, em⟩ := mkL_mD ((srtL F).map lnD)
  refine ⟨m, fun q => ?_⟩
  show (if ok (SrtOk (F.map lnD)) then some (mkL (sortD (F.map lnD))) else none) = _
  rw [if_pos (ok_of (srtOk_ln hl)), sortL, em]
  rfl
theorem ne_srt {F G : List Ln} (hl : F.length ≤ 1000) (h : F.Perm G) {m p : Mode} : opNe [⟨m, dl lnD (srtL F)⟩, ⟨p, dl lnD (srtL G)⟩] = some ⟨.O, .bl false⟩ := by
  have big := sizeLine_big
  rw [srtL_eq h]
  have lg : (srtL G).length ≤ 1000 := by rw [(srtL_perm G).length_eq, ← h.length_eq]; exact hl
  have dat : Dat 5 (dl lnD (srtL G)) := .lst (by rw [List.length_map]; omega) fun d hd => by
    obtain ⟨x, _, rfl⟩ := List.mem_map.mp hd
    exact lnD_dat 2 x
  rw [opNe_dat dat dat (by omega), ok_of rfl]
  rfl
end Tr
namespace Tr
open PySem L2
theorem chain_len {L : List Sz} : ∀ {S : List Sd} {s : Nat}, Chain L s S → s + S.length + 1 ≤ L.length
  | [], s, h => by
    have h : s + 1 = L.length := h
    simp; omega
  | (a, t, σ) :: r, s, h => by
    obtain ⟨rfl, ⟨v, hv, hb⟩, hr⟩ := h
    have h1 := chain_len hr
    have h2 := hb.1
    simp; omega
theorem last_some {L L0 : List Sz} {u : Int × Int} (e : L = L0 ++ [some u]) : L[L.length - 1]? = some (some u) := by subst e; simp
theorem jn_last {L M : List Sz} (hL : Szs L) (hM : Szs M) {u v : Int × Int} (h1 : L[L.length - 1]? = some (some u)) (h2 : M[M.length - 1]? = some (some v)) : ∃ z, (jn L M)[(jn L M).length - 1]? = some (some z) := by
  obtain ⟨q, ⟨w, hw, _⟩, _⟩ := pt_to hL hM (i := L.length - 1) (j := M.length - 1) ⟨u, h1, rfl⟩ ⟨v, h2, rfl⟩
  have a := hL.2.2
  have b := hM.2.2
  refine ⟨w, ?_⟩
  rw [jn_len, show L.length + M.length - 1 - 1 = L.length - 1 + (M.length - 1) by omega]
  exact hw
/-- what the law asks of two lists of sizes -/
theorem law_two {L M : List Sz} (hL : Szs L) (hM : Szs M) (oL : ∀ x ∈ L, Oks x) (oM : ∀ x ∈ M, Oks x) (lL : L.length ≤ 13) (lM : M.length ≤ 13) (uL : ∃ L0 u, L = L0 ++ [some u]) (uM : ∃ L0 u, M = L0 ++ [some u]) :
    ∃ (f g : Nat) (S T U : List Sd), m_sides [dl fo L] = some ⟨.O, dl sd S⟩ ∧ m_sides [dl fo M] = some ⟨.O, dl sd T⟩ ∧ m_sides [dl fo (jn L M)] = some ⟨.O, dl sd U⟩ ∧ S.length ≤ 100 ∧ T.length ≤ 100 ∧ U.length ≤ 100 ∧ (lns U).Perm (mrg (lns S) (lns T)) ∧
      m_u_law_begin [dl fo L] = some ⟨.O, .int (f : Int)⟩ ∧ m_u_law_begin [dl fo M] = some ⟨.O, .int (g : Int)⟩ ∧ m_u_law_begin [dl fo (jn L M)] = some ⟨.O, .int ((f : Int) + (g : Int))⟩ ∧
      m_joined [dl fo L, dl fo M] = some ⟨.O, dl fo (jn L M)⟩ ∧ m_joined [dl fo M, dl fo L] = some ⟨.O, dl fo (jn M L)⟩ ∧ m_joined [dl fo (jn L M), dl fo L] = some ⟨.O, dl fo (jn L (jn M L))⟩ ∧ m_joined [dl fo L, dl fo (jn M L)] = some ⟨.O, dl fo (jn L (jn M L))⟩ := by
  obtain ⟨L0, u, eu⟩ := uL
  obtain ⟨M0, v, ev⟩ := uM
  have l1 := hL.2.2
  have m1 := hM.2.2
  have s1 := jn_szs oL oM (by omega) (by omega) l1 m1
  have s2 := jn_szs oM oL (by omega) (by omega) m1 l1
  obtain ⟨z, hz⟩ := jn_last hL hM (last_some eu) (last_some ev)
  obtain ⟨f, S, hf, cS, eS⟩ := ev_sides hL (last_some eu)
  obtain ⟨g, T, hg, cT, eT⟩ := ev_sides hM (last_some ev)
  obtain ⟨k, U, hk, cU, eU⟩ := ev_sides s1 hz
  have n1 := chain_len cS
  have n2 := chain_len cT
  have n3 := chain_len cU
  have j1 := s1.2.1
  have pm := lns_join hL hM (lns_of hL hf cS) (lns_of hM hg cT) (lns_of s1 hk cU)
  have b3 := ev_begin (first_join hL hM hf hg) (by omega)
  have as := jn_assoc hL hM hL s1 s2
  have ja := ev_joined s1 hL
  rw [as] at ja
  exact ⟨f, g, S, T, U, eS, eT, eU, by omega, by omega, by omega, pm, ev_begin hf (by omega), ev_begin hg (by omega), by rw [b3]; simp, ev_joined hL hM, ev_joined hM hL, ja, ev_joined hL s2⟩
theorem law_true (ns : List Int) (hl : ns.length ≤ 63) : ∃ m, m_law [.scr ns] = some ⟨m, .bl true⟩ := by
  obtain ⟨j, hj, ej⟩ : ∃ j : Int, (j = 2 ∨ j = 3 ∨ j = 4 ∨ j = 5 ∨ j = 6) ∧ max 2 (min 6 ((ns.length : Nat) : Int)) = j := ⟨_, by omega, rfl⟩
  obtain ⟨N, hN, eN⟩ : ∃ N : Nat, N ≤ 3 ∧ Builtin.Range.rangeSize 0 j 2 = (N : Int) := by
    rcases hj with rfl | rfl | rfl | rfl | rfl
    · exact ⟨1, by decide, by decide⟩
    · exact ⟨2, by decide, by decide⟩
    · exact ⟨2, by decide, by decide⟩
    · exact ⟨3, by decide, by decide⟩
    · exact ⟨3, by decide, by decide⟩
  obtain ⟨ρ', e, x1, x2, x3, x4, x5, x6, x7, rfl⟩ := sFor_list (src := iRange3 (sCons (sCon (.int 0)) (sCons (sApp opMax2 (sCons (sCon (.int 2)) (sCons (sApp opMin2 (sCons (sCon (.int 6)) (sCons (sApp opLen (sCons (sVar 0) sNil)) sNil))) sNil))) (sCons (sCon (.int 2)) sNil)))) (g := sGName 1) (b := w_law_1) (f := fun k : Nat => D.int (0 + (k : Int) * 2)) (xs := List.range N)
    (ρ := [some ⟨.F, false, .scr ns⟩, none, none, none, none, none, none, none])
    (fun j ρ => ∃ x1 x2 x3 x4 x5 x6 x7, ρ = [some ⟨.F, false, .scr ns⟩, x1, x2, x3, x4, x5, x6, x7])
    (iRange3_gen (m1 := .O) (m2 := .O) (m3 := .O) (j := j) (by simp [ej]; rfl) (by decide) (by omega) (by decide) (by decide) eN (by omega)) ⟨_, _, _, _, _, _, _, rfl⟩ (by
      rintro i x ρ hi ⟨x1, x2, x3, x4, x5, x6, x7, rfl⟩
      have hk : i < N := by have := lt_of_get hi; simpa using this
      rw [List.getElem?_range hk] at hi
      cases hi
      obtain ⟨b1, e1, hb1⟩ := ev_bag (ns := ns) (k := (i : Int) * 2) (by omega) (by omega)
      obtain ⟨L, b2, e2, hL, hb2, uL, oL, lL⟩ := ev_sizes3 hb1 (most := 13) (by decide) (by decide)
      obtain ⟨c1, f1, hc1⟩ := ev_bag (ns := ns) (k := (i : Int) * 2 + 1) (by omega) (by omega)
      obtain ⟨M, c2, f2, hM, hc2, uM, oM, lM⟩ := ev_sizes3 hc1 (most := 13) (by decide) (by decide)
      obtain ⟨f, g, S, T, U, eS, eT, eU, nS, nT, nU, pm, g1, g2, g3, j1, j2, j3, j4⟩ := law_two hL hM oL oM (by omega) (by omega) uL uM
      have lS := ev_lengths (S := S) (by omega)
      have lT := ev_lengths (S := T) (by omega)
      have lU := ev_lengths (S := U) (by omega)
      have lm := ev_merged (A := lns S) (B := lns T) (by rw [lns, List.length_map]; omega) (by rw [lns, List.length_map]; omega)
      have nl : (lns U).length ≤ 1000 := by rw [lns, List.length_map]; omega
      obtain ⟨ma, so1⟩ := ev_sortedL (lns U) nl
      obtain ⟨mb, so2⟩ := ev_sortedL (mrg (lns S) (lns T)) (by rw [← pm.length_eq]; exact nl)
      have ne := fun m p => ne_srt nl pm (m := m) (p := p)
      have w1 : (dl fo L).flat = false := rfl
      have w2 : (dl fo M).flat = false := rfl
      have w3 : (dl fo (jn L M)).flat = false := rfl
      have w4 : (dl lnD (lns U)).flat = false := rfl
      have w5 : (dl lnD (mrg (lns S) (lns T))).flat = false := rfl
      have w6 : (dl lnD (srtL (lns U))).flat = false := rfl
      have w7 : (dl lnD (srtL (mrg (lns S) (lns T)))).flat = false := rfl
      simp only [w_law_1]
      cases ma <;> cases mb <;> simp [e1, e2, f1, f2, eS, eT, eU, lS, lT, lU, lm, so1, so2, ne, g1, g2, g3, j1, j2, j3, j4, ne_dl])
  have e : lp_law_1 _ = _ := e
  refine ⟨.O, ?_⟩
  simp only [m_law, fnSem, b_law]
  simp [e]
end Tr
namespace Tr
open PySem L2 RZ
def spLaw (K : PySem.W.Frag) : Sp := fun vs H Q _ => ∃ (a : Addr) (ns : List Int), vs = [.ref a] ∧ SqL K H a (ns.map V.int) ∧ ns.length ≤ 63 ∧ ∀ H', Q (.bl true) H'
theorem all_mk {l : PySem.W.OpenLaw} {w : World} {K : PySem.W.Frag} {h : Heap} {mg : Str → Option Value} {fa f1 f2 f3 f4 f5 f6 f8 f9 f10 f11 f12 f13 f14 f16 f17 f18 f19 f20 f21 f22 f23 : Addr} (X : K.In h) (G : h.Ns mainGlobals mg) (hfa : mg "law" = some (.ref fa))
    {od1 an1 od2 an2 od3 an3 od4 an4 od5 an5 od6 an6 od8 an8 od9 an9 od10 an10 od11 an11 od12 an12 od13 an13 od14 an14 od16 an16 od17 an17 od18 an18 od19 an19 od20 an20 od21 an21 od22 an22 od23 an23 : Option Addr} {sl1 sl2 sl3 sl4 sl5 sl6 sl8 sl9 sl10 sl11 sl12 sl13 sl14 sl16 sl17 sl18 sl19 sl20 sl21 sl22 sl23 : Array (Option Value)} {oc1 kV1 dc1 pm1 cd1 ct1 oc2 kV2 dc2 pm2 cd2 ct2 oc3 kV3 dc3 pm3 cd3 ct3 oc4 kV4 dc4 pm4 cd4 ct4 oc5 kV5 dc5 pm5 cd5 ct5 oc6 kV6 dc6 pm6 cd6 ct6 oc8 kV8 dc8 pm8 cd8 ct8 oc9 kV9 dc9 pm9 cd9 ct9 oc10 kV10 dc10 pm10 cd10 ct10 oc11 kV11 dc11 pm11 cd11 ct11 oc12 kV12 dc12 pm12 cd12 ct12 oc13 kV13 dc13 pm13 cd13 ct13 oc14 kV14 dc14 pm14 cd14 ct14 oc16 kV16 dc16 pm16 cd16 ct16 oc17 kV17 dc17 pm17 cd17 ct17 oc18 kV18 dc18 pm18 cd18 ct18 oc19 kV19 dc19 pm19 cd19 ct19 oc20 kV20 dc20 pm20 cd20 ct20 oc21 kV21 dc21 pm21 cd21 ct21 oc22 kV22 dc22 pm22 cd22 ct22 oc23 kV23 dc23 pm23 cd23 ct23 : Value}
    (a1 : PySem.W.nsIn K mainGlobals "common" = some (some (.ref f1))) (l1 : K.lookup f1 = some ⟨oc1, od1, .func (PySem.W.fnOf "common" "common" (defArgs (top 1)) (defBody (top 1)) (defScope (top 1)) .none kV1 dc1 pm1 an1 cd1 ct1), sl1⟩) (c1 : PySem.W.codeIn K cd1 "common" = true) (k1 : PySem.W.keepIn K (.ref f1) = true)
    (a2 : PySem.W.nsIn K mainGlobals "fraction" = some (some (.ref f2))) (l2 : K.lookup f2 = some ⟨oc2, od2, .func (PySem.W.fnOf "fraction" "fraction" (defArgs (top 2)) (defBody (top 2)) (defScope (top 2)) .none kV2 dc2 pm2 an2 cd2 ct2), sl2⟩) (c2 : PySem.W.codeIn K cd2 "fraction" = true) (k2 : PySem.W.keepIn K (.ref f2) = true)
    (a3 : PySem.W.nsIn K mainGlobals "plus" = some (some (.ref f3))) (l3 : K.lookup f3 = some ⟨oc3, od3, .func (PySem.W.fnOf "plus" "plus" (defArgs (top 3)) (defBody (top 3)) (defScope (top 3)) .none kV3 dc3 pm3 an3 cd3 ct3), sl3⟩) (c3 : PySem.W.codeIn K cd3 "plus" = true) (k3 : PySem.W.keepIn K (.ref f3) = true)
    (a4 : PySem.W.nsIn K mainGlobals "minus" = some (some (.ref f4))) (l4 : K.lookup f4 = some ⟨oc4, od4, .func (PySem.W.fnOf "minus" "minus" (defArgs (top 4)) (defBody (top 4)) (defScope (top 4)) .none kV4 dc4 pm4 an4 cd4 ct4), sl4⟩) (c4 : PySem.W.codeIn K cd4 "minus" = true) (k4 : PySem.W.keepIn K (.ref f4) = true)
    (a5 : PySem.W.nsIn K mainGlobals "over" = some (some (.ref f5))) (l5 : K.lookup f5 = some ⟨oc5, od5, .func (PySem.W.fnOf "over" "over" (defArgs (top 5)) (defBody (top 5)) (defScope (top 5)) .none kV5 dc5 pm5 an5 cd5 ct5), sl5⟩) (c5 : PySem.W.codeIn K cd5 "over" = true) (k5 : PySem.W.keepIn K (.ref f5) = true)
    (a6 : PySem.W.nsIn K mainGlobals "is_less" = some (some (.ref f6))) (l6 : K.lookup f6 = some ⟨oc6, od6, .func (PySem.W.fnOf "is_less" "is_less" (defArgs (top 6)) (defBody (top 6)) (defScope (top 6)) .none kV6 dc6 pm6 an6 cd6 ct6), sl6⟩) (c6 : PySem.W.codeIn K cd6 "is_less" = true) (k6 : PySem.W.keepIn K (.ref f6) = true)
    (a8 : PySem.W.nsIn K mainGlobals "slope_between" = some (some (.ref f8))) (l8 : K.lookup f8 = some ⟨oc8, od8, .func (PySem.W.fnOf "slope_between" "slope_between" (defArgs (top 8)) (defBody (top 8)) (defScope (top 8)) .none kV8 dc8 pm8 an8 cd8 ct8), sl8⟩) (c8 : PySem.W.codeIn K cd8 "slope_between" = true) (k8 : PySem.W.keepIn K (.ref f8) = true)
    (a9 : PySem.W.nsIn K mainGlobals "next_corner" = some (some (.ref f9))) (l9 : K.lookup f9 = some ⟨oc9, od9, .func (PySem.W.fnOf "next_corner" "next_corner" (defArgs (top 9)) (defBody (top 9)) (defScope (top 9)) .none kV9 dc9 pm9 an9 cd9 ct9), sl9⟩) (c9 : PySem.W.codeIn K cd9 "next_corner" = true) (k9 : PySem.W.keepIn K (.ref f9) = true)
    (a10 : PySem.W.nsIn K mainGlobals "first_place" = some (some (.ref f10))) (l10 : K.lookup f10 = some ⟨oc10, od10, .func (PySem.W.fnOf "first_place" "first_place" (defArgs (top 10)) (defBody (top 10)) (defScope (top 10)) .none kV10 dc10 pm10 an10 cd10 ct10), sl10⟩) (c10 : PySem.W.codeIn K cd10 "first_place" = true) (k10 : PySem.W.keepIn K (.ref f10) = true)
    (a11 : PySem.W.nsIn K mainGlobals "sides" = some (some (.ref f11))) (l11 : K.lookup f11 = some ⟨oc11, od11, .func (PySem.W.fnOf "sides" "sides" (defArgs (top 11)) (defBody (top 11)) (defScope (top 11)) .none kV11 dc11 pm11 an11 cd11 ct11), sl11⟩) (c11 : PySem.W.codeIn K cd11 "sides" = true) (k11 : PySem.W.keepIn K (.ref f11) = true)
    (a12 : PySem.W.nsIn K mainGlobals "lesser" = some (some (.ref f12))) (l12 : K.lookup f12 = some ⟨oc12, od12, .func (PySem.W.fnOf "lesser" "lesser" (defArgs (top 12)) (defBody (top 12)) (defScope (top 12)) .none kV12 dc12 pm12 an12 cd12 ct12), sl12⟩) (c12 : PySem.W.codeIn K cd12 "lesser" = true) (k12 : PySem.W.keepIn K (.ref f12) = true)
    (a13 : PySem.W.nsIn K mainGlobals "least_at" = some (some (.ref f13))) (l13 : K.lookup f13 = some ⟨oc13, od13, .func (PySem.W.fnOf "least_at" "least_at" (defArgs (top 13)) (defBody (top 13)) (defScope (top 13)) .none kV13 dc13 pm13 an13 cd13 ct13), sl13⟩) (c13 : PySem.W.codeIn K cd13 "least_at" = true) (k13 : PySem.W.keepIn K (.ref f13) = true)
    (a14 : PySem.W.nsIn K mainGlobals "joined" = some (some (.ref f14))) (l14 : K.lookup f14 = some ⟨oc14, od14, .func (PySem.W.fnOf "joined" "joined" (defArgs (top 14)) (defBody (top 14)) (defScope (top 14)) .none kV14 dc14 pm14 an14 cd14 ct14), sl14⟩) (c14 : PySem.W.codeIn K cd14 "joined" = true) (k14 : PySem.W.keepIn K (.ref f14) = true)
    (a16 : PySem.W.nsIn K mainGlobals "_law_bag" = some (some (.ref f16))) (l16 : K.lookup f16 = some ⟨oc16, od16, .func (PySem.W.fnOf "_law_bag" "_law_bag" (defArgs (top 16)) (defBody (top 16)) (defScope (top 16)) .none kV16 dc16 pm16 an16 cd16 ct16), sl16⟩) (c16 : PySem.W.codeIn K cd16 "_law_bag" = true) (k16 : PySem.W.keepIn K (.ref f16) = true)
    (a17 : PySem.W.nsIn K mainGlobals "_law_take" = some (some (.ref f17))) (l17 : K.lookup f17 = some ⟨oc17, od17, .func (PySem.W.fnOf "_law_take" "_law_take" (defArgs (top 17)) (defBody (top 17)) (defScope (top 17)) .none kV17 dc17 pm17 an17 cd17 ct17), sl17⟩) (c17 : PySem.W.codeIn K cd17 "_law_take" = true) (k17 : PySem.W.keepIn K (.ref f17) = true)
    (a18 : PySem.W.nsIn K mainGlobals "_law_low" = some (some (.ref f18))) (l18 : K.lookup f18 = some ⟨oc18, od18, .func (PySem.W.fnOf "_law_low" "_law_low" (defArgs (top 18)) (defBody (top 18)) (defScope (top 18)) .none kV18 dc18 pm18 an18 cd18 ct18), sl18⟩) (c18 : PySem.W.codeIn K cd18 "_law_low" = true) (k18 : PySem.W.keepIn K (.ref f18) = true)
    (a19 : PySem.W.nsIn K mainGlobals "_law_sizes" = some (some (.ref f19))) (l19 : K.lookup f19 = some ⟨oc19, od19, .func (PySem.W.fnOf "_law_sizes" "_law_sizes" (defArgs (top 19)) (defBody (top 19)) (defScope (top 19)) .none kV19 dc19 pm19 an19 cd19 ct19), sl19⟩) (c19 : PySem.W.codeIn K cd19 "_law_sizes" = true) (k19 : PySem.W.keepIn K (.ref f19) = true)
    (a20 : PySem.W.nsIn K mainGlobals "_law_lengths" = some (some (.ref f20))) (l20 : K.lookup f20 = some ⟨oc20, od20, .func (PySem.W.fnOf "_law_lengths" "_law_lengths" (defArgs (top 20)) (defBody (top 20)) (defScope (top 20)) .none kV20 dc20 pm20 an20 cd20 ct20), sl20⟩) (c20 : PySem.W.codeIn K cd20 "_law_lengths" = true) (k20 : PySem.W.keepIn K (.ref f20) = true)
    (a21 : PySem.W.nsIn K mainGlobals "_law_merged" = some (some (.ref f21))) (l21 : K.lookup f21 = some ⟨oc21, od21, .func (PySem.W.fnOf "_law_merged" "_law_merged" (defArgs (top 21)) (defBody (top 21)) (defScope (top 21)) .none kV21 dc21 pm21 an21 cd21 ct21), sl21⟩) (c21 : PySem.W.codeIn K cd21 "_law_merged" = true) (k21 : PySem.W.keepIn K (.ref f21) = true)
    (a22 : PySem.W.nsIn K mainGlobals "_law_begin" = some (some (.ref f22))) (l22 : K.lookup f22 = some ⟨oc22, od22, .func (PySem.W.fnOf "_law_begin" "_law_begin" (defArgs (top 22)) (defBody (top 22)) (defScope (top 22)) .none kV22 dc22 pm22 an22 cd22 ct22), sl22⟩) (c22 : PySem.W.codeIn K cd22 "_law_begin" = true) (k22 : PySem.W.keepIn K (.ref f22) = true)
    (a23 : PySem.W.nsIn K mainGlobals "law" = some (some (.ref f23))) (l23 : K.lookup f23 = some ⟨oc23, od23, .func (PySem.W.fnOf "law" "law" (defArgs (top 23)) (defBody (top 23)) (defScope (top 23)) .none kV23 dc23 pm23 an23 cd23 ct23), sl23⟩) (c23 : PySem.W.codeIn K cd23 "law" = true) (k23 : PySem.W.keepIn K (.ref f23) = true)
    (z_abs : PySem.W.nsIn K mainGlobals "abs" = some none)
    (z_enumerate : PySem.W.nsIn K mainGlobals "enumerate" = some none)
    (z_len : PySem.W.nsIn K mainGlobals "len" = some none)
    (z_list : PySem.W.nsIn K mainGlobals "list" = some none)
    (z_max : PySem.W.nsIn K mainGlobals "max" = some none)
    (z_min : PySem.W.nsIn K mainGlobals "min" = some none)
    (z_range : PySem.W.nsIn K mainGlobals "range" = some none)
    (z_sorted : PySem.W.nsIn K mainGlobals "sorted" = some none)
    : ∃ fd : FuncData, (∀ (s : Shared) (v : Value), BindsTo s fd ⟨[v], []⟩ [("_law_script", v)]) ∧ ∀ base : Heap, K.In base → base.Ns mainGlobals mg → FnOk l.prog w K mg base CX0 7 fa fd ["_law_script"] (spLaw K) := by
  have e := hfa.symm.trans (PySem.W.mg_of X G a23)
  cases e
  have F1 := fun_mk (st := top 1) l1 c1 k1
  have F2 := fun_mk (st := top 2) l2 c2 k2
  have F3 := fun_mk (st := top 3) l3 c3 k3
  have F4 := fun_mk (st := top 4) l4 c4 k4
  have F5 := fun_mk (st := top 5) l5 c5 k5
  have F6 := fun_mk (st := top 6) l6 c6 k6
  have F8 := fun_mk (st := top 8) l8 c8 k8
  have F9 := fun_mk (st := top 9) l9 c9 k9
  have F10 := fun_mk (st := top 10) l10 c10 k10
  have F11 := fun_mk (st := top 11) l11 c11 k11
  have F12 := fun_mk (st := top 12) l12 c12 k12
  have F13 := fun_mk (st := top 13) l13 c13 k13
  have F14 := fun_mk (st := top 14) l14 c14 k14
  have F16 := fun_mk (st := top 16) l16 c16 k16
  have F17 := fun_mk (st := top 17) l17 c17 k17
  have F18 := fun_mk (st := top 18) l18 c18 k18
  have F19 := fun_mk (st := top 19) l19 c19 k19
  have F20 := fun_mk (st := top 20) l20 c20 k20
  have F21 := fun_mk (st := top 21) l21 c21 k21
  have F22 := fun_mk (st := top 22) l22 c22 k22
  have F23 := fun_mk (st := top 23) l23 c23 k23
  have T : Tx K mg (FA.mk f1 f2 f3 f4 f5 f6 f8 f9 f10 f11 f12 f13 f14 f16 f17 f18 f19 f20 f21 f22 fa) (FD.mk _ _ _ _ _ _ _ _ _ _ _ _ _ _ _ _ _ _ _ _ _) := ⟨F1, PySem.W.mg_of X G a1, F1.binds (ps := ["one", "other"]) (fun _ _ _ _ _ _ us hl => match us, hl with | [_, _], _ => rfl),
    F2, PySem.W.mg_of X G a2, F2.binds (ps := ["top", "bottom"]) (fun _ _ _ _ _ _ us hl => match us, hl with | [_, _], _ => rfl),
    F3, PySem.W.mg_of X G a3, F3.binds (ps := ["u", "v"]) (fun _ _ _ _ _ _ us hl => match us, hl with | [_, _], _ => rfl),
    F4, PySem.W.mg_of X G a4, F4.binds (ps := ["u", "v"]) (fun _ _ _ _ _ _ us hl => match us, hl with | [_, _], _ => rfl),
    F5, PySem.W.mg_of X G a5, F5.binds (ps := ["u", "v"]) (fun _ _ _ _ _ _ us hl => match us, hl with | [_, _], _ => rfl),
    F6, PySem.W.mg_of X G a6, F6.binds (ps := ["u", "v"]) (fun _ _ _ _ _ _ us hl => match us, hl with | [_, _], _ => rfl),
    F8, PySem.W.mg_of X G a8, F8.binds (ps := ["sizes", "s", "t"]) (fun _ _ _ _ _ _ us hl => match us, hl with | [_, _, _], _ => rfl),
    F9, PySem.W.mg_of X G a9, F9.binds (ps := ["sizes", "s"]) (fun _ _ _ _ _ _ us hl => match us, hl with | [_, _], _ => rfl),
    F10, PySem.W.mg_of X G a10, F10.binds (ps := ["sizes"]) (fun _ _ _ _ _ _ us hl => match us, hl with | [_], _ => rfl),
    F11, PySem.W.mg_of X G a11, F11.binds (ps := ["sizes"]) (fun _ _ _ _ _ _ us hl => match us, hl with | [_], _ => rfl),
    F12, PySem.W.mg_of X G a12, F12.binds (ps := ["one", "other"]) (fun _ _ _ _ _ _ us hl => match us, hl with | [_, _], _ => rfl),
    F13, PySem.W.mg_of X G a13, F13.binds (ps := ["one", "other", "k"]) (fun _ _ _ _ _ _ us hl => match us, hl with | [_, _, _], _ => rfl),
    F14, PySem.W.mg_of X G a14, F14.binds (ps := ["one", "other"]) (fun _ _ _ _ _ _ us hl => match us, hl with | [_, _], _ => rfl),
    F16, PySem.W.mg_of X G a16, F16.binds (ps := ["_law_script", "_law_at"]) (fun _ _ _ _ _ _ us hl => match us, hl with | [_, _], _ => rfl),
    F17, PySem.W.mg_of X G a17, F17.binds (ps := ["_law_bag_here", "_law_many"]) (fun _ _ _ _ _ _ us hl => match us, hl with | [_, _], _ => rfl),
    F18, PySem.W.mg_of X G a18, F18.binds (ps := ["_law_top", "_law_bottom"]) (fun _ _ _ _ _ _ us hl => match us, hl with | [_, _], _ => rfl),
    F19, PySem.W.mg_of X G a19, F19.binds (ps := ["_law_bag_here", "_law_most"]) (fun _ _ _ _ _ _ us hl => match us, hl with | [_, _], _ => rfl),
    F20, PySem.W.mg_of X G a20, F20.binds (ps := ["_law_found"]) (fun _ _ _ _ _ _ us hl => match us, hl with | [_], _ => rfl),
    F21, PySem.W.mg_of X G a21, F21.binds (ps := ["_law_one", "_law_other"]) (fun _ _ _ _ _ _ us hl => match us, hl with | [_, _], _ => rfl),
    F22, PySem.W.mg_of X G a22, F22.binds (ps := ["_law_sizes_here"]) (fun _ _ _ _ _ _ us hl => match us, hl with | [_], _ => rfl),
    F23, PySem.W.mg_of X G a23, F23.binds (ps := ["_law_script"]) (fun _ _ _ _ _ _ us hl => match us, hl with | [_], _ => rfl),
    PySem.W.mg_none_of X G z_abs,
    PySem.W.mg_none_of X G z_enumerate,
    PySem.W.mg_none_of X G z_len,
    PySem.W.mg_none_of X G z_list,
    PySem.W.mg_none_of X G z_max,
    PySem.W.mg_none_of X G z_min,
    PySem.W.mg_none_of X G z_range,
    PySem.W.mg_none_of X G z_sorted⟩
  refine ⟨PySem.W.fnOf "law" "law" (defArgs (top 23)) (defBody (top 23)) (defScope (top 23)) .none kV23 dc23 pm23 an23 cd23 ct23, fun s v => .of_eq rfl, fun base _ _ => ?_⟩
  refine (ok_law (P := l.prog) (w := w) (base := base) (c := fun _ => 0) T).imp fun vs H Q E hs => ?_
  obtain ⟨a, ns, rfl, hS, hl, k⟩ := hs
  obtain ⟨m, hm⟩ := law_true ns hl
  refine ⟨[.scr ns], H, ⟨m, .bl true⟩, rfl, Same.refl _, .cons (A := []) (B := []) (.scr hS) (.nil _), hm, fun v H' G' C q => ?_⟩
  have rp := q.rep
  obtain ⟨rfl, _⟩ := rep_bl rp
  exact k H'
theorem walk {l : PySem.W.OpenLaw} {q : Program} {loose : List Str} {XP : (Str → Option Value) → Heap → Prop} {YP : World → Heap → Prop} {d : DefRec} {K : Params → PySem.W.Frag} (hn : l.most = some 63) (hdf : d.params.defaults = [])
    (hY : ∀ (w : World) (h : Heap), YP w h → (K w.params).In h)
    (F : ∀ (w : World) (mg : Str → Option Value) (fa : Addr) (h : Heap), (K w.params).In h → h.Ns mainGlobals mg → mg d.name = some (.ref fa) →
      ∃ fd : FuncData, (∀ (s : Shared) (u : Value), BindsTo s fd ⟨[u], []⟩ [("_law_script", u)]) ∧ ∀ base : Heap, (K w.params).In base → base.Ns mainGlobals mg → FnOk l.prog w (K w.params) mg base CX0 7 fa fd ["_law_script"] (spLaw (K w.params))) :
    PySem.W.WalkO q loose XP YP l.row.toRowW d [] (fun f vs => PySem.call f vs) :=
  L2.walk_of (n := 63) (k := 7) (x := "_law_script") (CX := fun _ => CX0) (sp := fun w => spLaw (K w.params)) hn (by decide) hdf ⟨rfl, by decide, by decide⟩ hY F (fun _ _ a ns hl _ hS => ⟨a, ns, rfl, hS, hl, fun _ => rfl⟩) fun _ _ _ _ _ z => z
end Tr
open PySem PySem.W PyProof.Rows
set_option maxRecDepth 100000 in
set_option maxHeartbeats 0 in
theorem PySem.Challenge.cw_branchdepth_k25_whole_sides_put_together_holds : PySem.Challenge.rw_branchdepth_k25_whole_sides_put_together.Holds := by
  w_on; o_law; k_head; (case hw => w_witness2)
  k_fill
  refine Tr.walk (l := PySem.Challenge.rw_branchdepth_k25_whole_sides_put_together) rfl rfl (fun w h Y => PySem.W.kIn_of Y) ?F
  case F =>
    intro w mg fa h KX G hmg
    refine' Tr.all_mk KX G hmg ?a1 ?l1 ?c1 ?k1 ?a2 ?l2 ?c2 ?k2 ?a3 ?l3 ?c3 ?k3 ?a4 ?l4 ?c4 ?k4 ?a5 ?l5 ?c5 ?k5 ?a6 ?l6 ?c6 ?k6 ?a8 ?l8 ?c8 ?k8 ?a9 ?l9 ?c9 ?k9 ?a10 ?l10 ?c10 ?k10 ?a11 ?l11 ?c11 ?k11 ?a12 ?l12 ?c12 ?k12 ?a13 ?l13 ?c13 ?k13 ?a14 ?l14 ?c14 ?k14 ?a16 ?l16 ?c16 ?k16 ?a17 ?l17 ?c17 ?k17 ?a18 ?l18 ?c18 ?k18 ?a19 ?l19 ?c19 ?k19 ?a20 ?l20 ?c20 ?k20 ?a21 ?l21 ?c21 ?k21 ?a22 ?l22 ?c22 ?k22 ?a23 ?l23 ?c23 ?k23 ?z_abs ?z_enumerate ?z_len ?z_list ?z_max ?z_min ?z_range ?z_sorted
    (case a1 => k_is)
    (case l1 => k_is)
    (case c1 => k_is)
    (case k1 => k_is)
    (case a2 => k_is)
    (case l2 => k_is)
    (case c2 => k_is)
    (case k2 => k_is)
    (case a3 => k_is)
    (case l3 => k_is)
    (case c3 => k_is)
    (case k3 => k_is)
    (case a4 => k_is)
    (case l4 => k_is)
    (case c4 => k_is)
    (case k4 => k_is)
    (case a5 => k_is)
    (case l5 => k_is)
    (case c5 => k_is)
    (case k5 => k_is)
    (case a6 => k_is)
    (case l6 => k_is)
    (case c6 => k_is)
    (case k6 => k_is)
    (case a8 => k_is)
    (case l8 => k_is)
    (case c8 => k_is)
    (case k8 => k_is)
    (case a9 => k_is)
    (case l9 => k_is)
    (case c9 => k_is)
    (case k9 => k_is)
    (case a10 => k_is)
    (case l10 => k_is)
    (case c10 => k_is)
    (case k10 => k_is)
    (case a11 => k_is)
    (case l11 => k_is)
    (case c11 => k_is)
    (case k11 => k_is)
    (case a12 => k_is)
    (case l12 => k_is)
    (case c12 => k_is)
    (case k12 => k_is)
    (case a13 => k_is)
    (case l13 => k_is)
    (case c13 => k_is)
    (case k13 => k_is)
    (case a14 => k_is)
    (case l14 => k_is)
    (case c14 => k_is)
    (case k14 => k_is)
    (case a16 => k_is)
    (case l16 => k_is)
    (case c16 => k_is)
    (case k16 => k_is)
    (case a17 => k_is)
    (case l17 => k_is)
    (case c17 => k_is)
    (case k17 => k_is)
    (case a18 => k_is)
    (case l18 => k_is)
    (case c18 => k_is)
    (case k18 => k_is)
    (case a19 => k_is)
    (case l19 => k_is)
    (case c19 => k_is)
    (case k19 => k_is)
    (case a20 => k_is)
    (case l20 => k_is)
    (case c20 => k_is)
    (case k20 => k_is)
    (case a21 => k_is)
    (case l21 => k_is)
    (case c21 => k_is)
    (case k21 => k_is)
    (case a22 => k_is)
    (case l22 => k_is)
    (case c22 => k_is)
    (case k22 => k_is)
    (case a23 => k_is)
    (case l23 => k_is)
    (case c23 => k_is)
    (case k23 => k_is)
    (case z_abs => k_is)
    (case z_enumerate => k_is)
    (case z_len => k_is)
    (case z_list => k_is)
    (case z_max => k_is)
    (case z_min => k_is)
    (case z_range => k_is)
    (case z_sorted => k_is)
