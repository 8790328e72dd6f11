import Derived.Shelf.LaysM
import Derived.Shelf.Strconv.Clone
import Derived.Test.YtjhpgkjnkgknnaaGreatDoorProg
import Derived.KernelRfl
import Derived.Test.YtjhpgkjnkgknnaaGreatDoorKa
import Derived.Test.YtjhpgkjnkgknnaaGreatDoorHe
import Derived.Test.YtjhpgkjnkgknnaaGreatDoorHc
import Derived.Laws.StandIn
namespace Go.Proofs
open Go.Shelf
def Tryz.laysM316_ren : Go.Shelf.Ren := ⟨fun | 316 => 156 | n => n, fun | 9 => 9 | 3 => 3 | 4 => 4 | 37 => 47 | 0 => 0 | 127 => 224 | 5 => 5 | n => n, fun | n => n⟩
theorem Tryz.laysM316 : Go.Proofs.LaysM.n316 Tryz.prog Tryz.laysM316_ren := {
  mixed := by kernel_rfl
  f316 := Tryz.func156.trans (congrArg some (by kernel_rfl))
  t0 := Tryz.underlying0
  a0 := Tryz.isAgg0
  z0 := Tryz.sizeOf0
  v0 := Tryz.zeroValue0
  t3 := Tryz.underlying3
  a3 := Tryz.isAgg3
  z3 := Tryz.sizeOf3
  v3 := Tryz.zeroValue3
  t4 := Tryz.underlying4
  a4 := Tryz.isAgg4
  z4 := Tryz.sizeOf4
  v4 := Tryz.zeroValue4
  t9 := Tryz.underlying9
  a9 := Tryz.isAgg9
  z9 := Tryz.sizeOf9
  v9 := Tryz.zeroValue9
  t37 := Tryz.underlying47
  a37 := Tryz.isAgg47
  z37 := Tryz.sizeOf47
  v37 := Tryz.zeroValue47
  t127 := Tryz.underlying224
  a127 := Tryz.isAgg224
  z127 := Tryz.sizeOf224
  v127 := Tryz.zeroValue224
  t5 := Tryz.underlying5
  a5 := Tryz.isAgg5
  z5 := Tryz.sizeOf5
  v5 := Tryz.zeroValue5
  i0 := by kernel_rfl
  i3 := by kernel_rfl
  i4 := by kernel_rfl
  i5 := by kernel_rfl
  i9 := by kernel_rfl
  i37 := by kernel_rfl
  i127 := by kernel_rfl }
open Go.RowKit in
/-- internal/stringslite.Clone (what strings.Clone calls): "Clone returns a fresh copy of s.": THE SAME BYTES. Of what was there nothing has turned (a new row is laid, and frozen, where s is not empty). (LAID: no walk: one application.) -/
theorem Tryz.stringslite_Clone (s : ByteArray) (w : World) (hlim : s.size ≤ 281474976710656) :
    Calls Tryz.prog 156 #[.string s] w fun e w' => e = .returned (.string s) ∧ Below w.heap.size w w' := Any.stringslite_Clone Tryz.laysM316 s w hlim
end Go.Proofs
set_option maxRecDepth 100000
set_option linter.unusedVariables false
set_option linter.unusedSimpArgs false
namespace Go.Proofs.YtjhpgkjnkgknnaaGreatDoor.Av
open Go Go.Av Go.Proofs
/-- The sentinel strconv.ErrSyntax: an error of its own type; what it holds is not asked. -/
instance ground : Go.Av.Ground := ⟨fun n => if Nat.beq n 6 then some (.cptr [.iface 225 .top]) else none⟩
theorem env_ok : EnvOK Tryz.prog env := EnvOK.of_tree0 (by kernel_rfl) (by kernel_rfl)
theorem names_ok : (Tryz.prog.funcs.toList.all fun fn => !(fn.name == "runtime.NumGoroutine")) = true := by kernel_rfl
theorem regs_ok : regionsOK Tryz.prog (looseIn looses) 0 Tryz.prog.funcs.toList = true := by kernel_rfl
theorem mixed_ok : Tryz.prog.follows .mixedOrders = true := by kernel_rfl

theorem fnAt126 : FnAt Tryz.prog 126 (match Tryz.f126.body with | some c => c | none => .skip) 8 Tryz.f126.results.toList := ⟨Tryz.f126, Tryz.func126, rfl, rfl, rfl, by kernel_rfl⟩

theorem ext153 {fr : AFr} {H : AHeap} {o : Oper} {x y : Operand} {ats : Array TypeId} {l : List UInt8} {c : UInt8} (ho : o.op = .call { callee := .value (.func 153), args := #[x, y], argTypes := ats }) (hx : aev fr x = .str l) (hy : aev fr y = .int .u8 c.toNat) :
    OpSound Tryz.prog o fr H (.int .i64 (bidx c.toNat l 0)) H := by
  refine OpSound.of_pure fun B0 W0 g S w a hA hI hF => ⟨.int .i64 (firstIdx ⟨⟨l⟩⟩ c), ?_, by rw [firstIdx_bidx]; exact .int _ _⟩
  have h1 := hF.eval x
  have h2 := hF.eval y
  rw [hx] at h1
  rw [hy] at h2
  have e1 : a.eval x = .string ⟨⟨l⟩⟩ := by generalize a.eval x = v at h1; cases h1; rfl
  have e2 : a.eval y = .int .u8 c.toNat := by generalize a.eval y = v at h2; cases h2; rfl
  have earr : (#[] : Array Value) ++ #[x, y].map a.eval ++ #[] = #[.string ⟨⟨l⟩⟩, .int .u8 c.toNat] := by simp [e1, e2]
  have hcall : (callFunc 153 #[.string ⟨⟨l⟩⟩, .int .u8 c.toNat]).run Tryz.prog w = .ok (.value (.int .i64 (firstIdx ⟨⟨l⟩⟩ c))) w := by
    rw [run_callFunc_indexByte (fn := Tryz.f153) Tryz.func153 (by kernel_rfl) (by kernel_rfl) (by kernel_rfl) (by kernel_rfl), run_indexByte_string]
    simp [Result.andThen]
  unfold execOp
  simp only [ho, resolve, Act.eval, Deferred.ofValue, invoke, Sem.run_bind, Sem.run_pure, Result.andThen_ok, earr]
  exact hcall

theorem con126 (l : List UInt8) (c : UInt8) (H : AHeap) : Con Tryz.prog 126 [.str l, .int .u8 c.toNat] H (.int .i64 (bidx c.toNat l 0)) H [] := by
  refine Con.pure env_ok fnAt126 rfl ?_
  simp only [Tryz.f126, aargs]
  refine SItems.walk_seq env_ok ?_
  simp only [wops, awanted, acallee, alocal, aev, alook, aput, ofConst, reduceIte, Nat.reduceLT, Nat.reduceAdd, Option.getD_some, Option.map_some]
  refine SItems.seq ?_
  refine SItems.region ?_
  refine SOps.want (r := .str l) rfl (alocal_sound env_ok rfl) ?_
  refine SOps.want (r := .int .u8 c.toNat) rfl (alocal_sound env_ok rfl) ?_
  refine SOps.want rfl (ext153 (l := l) (c := c) rfl rfl rfl) ?_
  refine SOps.want (r := .int .i64 (bidx c.toNat l 0)) rfl (alocal_sound env_ok rfl) ?_
  refine SOps.nil ?_
  exact SItems.ret ⟨.inr rfl, ⟨[], by simp⟩, rfl⟩

def hook : CallF := fun f args H => match args with
  | [.str s, .int .u8 b] => if 0 ≤ b ∧ b < 256 then some (.int .i64 (bidx b.toNat s 0), H, []) else none
  | _ => none
noncomputable def cfg : Cfg := ⟨env, fnsOf Tryz.prog, hook, fun f => Nat.beq f 126, looseIn looses⟩
theorem cfg_ok : CfgOK Tryz.prog cfg := by
  refine ⟨env_ok, fnsOf_ok names_ok, fun f args H r H' W hf h => ?_, mixed_ok, regions_ok regs_ok⟩
  have hf : f = 126 := Nat.eq_of_beq_eq_true hf
  subst hf
  have h : hook 126 args H = some (r, H', W) := h
  unfold hook at h
  split at h
  · rename_i s b _
    split at h
    · rename_i hb
      simp only [Option.some.injEq, Prod.mk.injEq] at h
      obtain ⟨rfl, rfl, rfl⟩ := h
      have e : b = ((b.toNat.toUInt8).toNat : Int) := by
        have : b.toNat < 256 := by omega
        simp [Nat.toUInt8, UInt8.toNat_ofNat, Nat.mod_eq_of_lt this]
        omega
      have := con126 s b.toNat.toUInt8 H
      rw [← e] at this
      have e2 : (b.toNat.toUInt8).toNat = b.toNat := by omega
      rw [e2] at this
      exact this
    · cases h
  · cases h
end Go.Proofs.YtjhpgkjnkgknnaaGreatDoor.Av
set_option maxRecDepth 100000
set_option linter.unusedVariables false
set_option linter.unusedSimpArgs false
namespace Go.Proofs.YtjhpgkjnkgknnaaGreatDoor.Av
open Go Go.Av Go.Proofs
def cloneHook : CallF := fun _ args H => match args with
  | [.str s] => if s.length ≤ 1000000 then some (.str s, H, []) else none
  | _ => none
def hook2 : CallF := fun f args H => if Nat.beq f 163 then findHook f args H else if Nat.beq f 156 then cloneHook f args H else hook f args H
noncomputable def cfg2 : Cfg := ⟨env, fnsOf Tryz.prog, hook2, fun f => Nat.beq f 126 || Nat.beq f 163 || Nat.beq f 156, looseIn looses⟩
end Go.Proofs.YtjhpgkjnkgknnaaGreatDoor.Av
set_option maxRecDepth 100000
set_option linter.unusedVariables false
set_option linter.unusedSimpArgs false
namespace Go.Proofs.YtjhpgkjnkgknnaaGreatDoor.Av
open Go Go.Av Go.Proofs
theorem fnAt8 : FnAt Tryz.prog 8 (match Tryz.f8.body with | some c => c | none => .skip) 15 Tryz.f8.results.toList := ⟨Tryz.f8, Tryz.func8, rfl, rfl, rfl, by kernel_rfl⟩
def within (a n : Int) : Int := if a.tmod n < 0 then a.tmod n + n else a.tmod n
theorem within_range (a n : Int) (hn : 0 < n) : 0 ≤ within a n ∧ within a n < n := by
  unfold within
  have h1 := Int.lt_tmod_of_pos a hn
  have h2 := Int.tmod_lt_of_pos a hn
  split <;> omega
theorem within_con (a n : Int) (hn : 0 < n) (hn2 : n < 1000000) (H : AHeap) : Con Tryz.prog 8 [.int .i64 a, .int .i64 n] H (.int .i64 (within a n)) H [] := by
  have h0 : n ≠ 0 := by omega
  refine Con.pure env_ok fnAt8 rfl ?_
  simp only [Tryz.f8, aargs]
  refine SItems.walk_seq env_ok ?_
  simp only [wops, awanted, acallee, alocal, aev, alook, aput, ofConst, reduceIte, Nat.reduceLT, Nat.reduceAdd, Option.getD_some, Option.map_some]
  refine SItems.walk_seq env_ok ?_
  simp only [wops, awanted, acallee, alocal, aev, alook, aput, ofConst, reduceIte, Nat.reduceLT, Nat.reduceAdd, Option.getD_some, Option.map_some, Nat.reduceEqDiff, abin_rem _ _ _ _ _ _ h0]
  refine SItems.seq ?_
  refine SItems.walk_seq env_ok ?_
  simp only [wops, awanted, acallee, alocal, aev, alook, aput, ofConst, reduceIte, Nat.reduceLT, Nat.reduceAdd, Option.getD_some, Option.map_some, Nat.reduceEqDiff, abin_lss]
  refine SItems.cond (b := decide (a.tmod n < 0)) rfl ?_
  by_cases hk : a.tmod n < 0
  · simp only [hk, decide_true, reduceIte]
    refine SItems.walk env_ok ?_
    have hw : IntKind.i64.wrap (a.tmod n + n) = a.tmod n + n := wrap_i64 (by have := Int.lt_tmod_of_pos a hn; omega) (by omega)
    simp only [wops, awanted, acallee, alocal, aev, alook, aput, ofConst, reduceIte, Nat.reduceLT, Nat.reduceAdd, Option.getD_some, Option.map_some, Nat.reduceEqDiff, abin_add, hw]
    refine SItems.walk_seq env_ok ?_
    simp only [wops, awanted, acallee, alocal, aev, alook, aput, ofConst, reduceIte, Nat.reduceLT, Nat.reduceAdd, Option.getD_some, Option.map_some, Nat.reduceEqDiff]
    refine SItems.ret ⟨.inr rfl, ⟨[], by simp⟩, ?_⟩
    simp [aresults, aresult, alook, within, hk]
  · simp only [hk, decide_false, reduceIte, Bool.false_eq_true]
    refine SItems.skip ?_
    refine SItems.walk_seq env_ok ?_
    simp only [wops, awanted, acallee, alocal, aev, alook, aput, ofConst, reduceIte, Nat.reduceLT, Nat.reduceAdd, Option.getD_some, Option.map_some, Nat.reduceEqDiff]
    refine SItems.ret ⟨.inr rfl, ⟨[], by simp⟩, ?_⟩
    simp [aresults, aresult, alook, within, hk]

end Go.Proofs.YtjhpgkjnkgknnaaGreatDoor.Av
