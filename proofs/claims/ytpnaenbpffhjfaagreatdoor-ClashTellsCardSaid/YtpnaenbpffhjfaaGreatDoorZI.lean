/- The functions' code as plain data. No conditions. -/
import Derived.Test.YtpnaenbpffhjfaaGreatDoorEy6
import Derived.Test.YtpnaenbpffhjfaaGreatDoorProg
import Derived.KernelRfl
set_option linter.unusedVariables false
set_option linter.unusedSimpArgs false
set_option linter.all false
set_option maxRecDepth 1000000
namespace Go.Proofs.YtpnaenbpffhjfaaGreatDoor.Z1
open Go.Proofs.YtpnaenbpffhjfaaGreatDoor.Ev
theorem sh29 : shapeT Tryz.prog 29 = some (true,7) := by kernel_rfl
theorem sl31 : sliceT Tryz.prog 31 = some (29,true,7) := by kernel_rfl
theorem ze29 : zeroT Tryz.prog 29 = some (.agg ⟨[.int .i64 0,.int .i64 0,.string ⟨#[]⟩,.int .i64 0,.int .i64 0,.slice none 0 0,.slice none 0 0]⟩) := by kernel_rfl
theorem sz29 : sizeT Tryz.prog 29 = some 7 := by kernel_rfl
theorem ze35 : zeroT Tryz.prog 35 = some (.agg ⟨[.int .i64 0,.int .i64 0,.int .i64 0,.int .i64 0]⟩) := by kernel_rfl
theorem sz35 : sizeT Tryz.prog 35 = some 4 := by kernel_rfl
theorem sh35 : shapeT Tryz.prog 35 = some (true,4) := by kernel_rfl
theorem nt35 : nilT Tryz.prog 35 = 0 := by kernel_rfl
theorem nt36 : nilT Tryz.prog 36 = 0 := by kernel_rfl
theorem nt4 : nilT Tryz.prog 4 = 6 := by kernel_rfl
/-- tributary/tributarylaw11.ClashTells -/
def c3 : IC :=
 .seq (.ops [⟨some 2,none,.box 29 (tt 0)⟩,
  ⟨some 3,none,.box 29 (tt 1)⟩,
  ⟨some 4,none,.assign (cb false)⟩])
 (.seq (.seq (.ops [⟨some 11,none,.load 29 (tt 2)⟩,
  ⟨some 12,none,.load 29 (tt 3)⟩,
  ⟨some 13,none,.buildSlice 31 2 #[(0,(tt 11)),(1,(tt 12))]⟩,
  ⟨some 14,none,.call ⟨(.value (ff 11)),#[(tt 13),(ci 2)],#[31, 3]⟩⟩])
 (.cond (tt 14) (.seq (.ops [⟨some 15,none,.call ⟨(.value (ff 12)),#[],#[]⟩⟩,
   ⟨some 4,none,.assign (tt 15)⟩])
  (.ret))
 (.skip)))
 (.seq (.drw [(0,⟨some 16,none,.load 29 (tt 2)⟩),
  (1,⟨some 17,none,.call ⟨(.value (ff 13)),#[(tt 16)],#[29]⟩⟩),
  (0,⟨some 18,none,.load 29 (tt 3)⟩),
  (7,⟨some 19,none,.call ⟨(.value (ff 13)),#[(tt 18)],#[29]⟩⟩),
  (0,⟨some 5,none,.alloc 29⟩),
  (0,⟨some 6,none,.alloc 29⟩),
  (63,⟨none,none,.store 29 (tt 5) (tt 17)⟩),
  (127,⟨none,none,.store 29 (tt 6) (tt 19)⟩)])
 (.seq (.ops [⟨some 21,none,.load 29 (tt 5)⟩,
  ⟨some 22,none,.load 29 (tt 6)⟩,
  ⟨some 23,none,.call ⟨(.value (ff 14)),#[(tt 21),(tt 22)],#[29, 29]⟩⟩,
  ⟨some 20,none,.move (tt 23)⟩,
  ⟨some 24,none,.extract (tt 20) 0⟩,
  ⟨some 25,none,.extract (tt 20) 1⟩,
  ⟨some 7,none,.alloc 35⟩,
  ⟨none,none,.store 35 (tt 7) (tt 24)⟩,
  ⟨some 8,none,.assign (tt 25)⟩])
 (.seq (.ops [⟨some 27,none,.load 29 (tt 2)⟩,
  ⟨some 28,none,.load 29 (tt 3)⟩,
  ⟨some 29,none,.call ⟨(.value (ff 15)),#[(tt 27),(tt 28)],#[29, 29]⟩⟩,
  ⟨some 26,none,.move (tt 29)⟩,
  ⟨some 30,none,.extract (tt 26) 0⟩,
  ⟨some 31,none,.extract (tt 26) 1⟩,
  ⟨some 9,none,.alloc 35⟩,
  ⟨none,none,.store 35 (tt 9) (tt 30)⟩,
  ⟨some 10,none,.assign (tt 31)⟩])
 (.seq (.drw [(0,⟨some 32,none,.load 35 (tt 7)⟩),
  (0,⟨some 33,none,.load 35 (tt 9)⟩),
  (3,⟨some 34,none,.binOp .eql 35 (tt 32) (tt 33) 35⟩),
  (7,⟨some 35,none,.move (tt 34)⟩),
  (15,⟨some 36,some (35,true),.move (tt 8)⟩),
  (15,⟨some 37,some (35,true),.move (tt 10)⟩),
  (63,⟨some 38,some (35,true),.binOp .eql 36 (tt 36) (tt 37) 36⟩),
  (127,⟨some 39,none,.pick (tt 35) (tt 38) (cb false)⟩),
  (255,⟨some 40,none,.move (tt 39)⟩),
  (511,⟨some 41,some (40,true),.load 29 (tt 5)⟩),
  (511,⟨some 42,some (40,true),.load 29 (tt 6)⟩),
  (2047,⟨some 43,some (40,true),.call ⟨(.value (ff 16)),#[(tt 41),(tt 42)],#[29, 29]⟩⟩),
  (511,⟨some 44,some (40,true),.load 29 (tt 2)⟩),
  (511,⟨some 45,some (40,true),.load 29 (tt 3)⟩),
  (16383,⟨some 46,some (40,true),.call ⟨(.value (ff 17)),#[(tt 44),(tt 45)],#[29, 29]⟩⟩),
  (32767,⟨some 47,some (40,true),.binOp .eql 4 (tt 43) (tt 46) 4⟩),
  (65535,⟨some 48,none,.pick (tt 40) (tt 47) (cb false)⟩),
  (131071,⟨some 49,none,.move (tt 48)⟩),
  (262143,⟨some 50,some (49,true),.load 29 (tt 5)⟩),
  (262143,⟨some 51,some (49,true),.load 29 (tt 2)⟩),
  (1048575,⟨some 52,some (49,true),.call ⟨(.value (ff 18)),#[(tt 50),(tt 51)],#[29, 29]⟩⟩),
  (2097151,⟨some 53,none,.pick (tt 49) (tt 52) (cb false)⟩),
  (4194303,⟨some 54,none,.move (tt 53)⟩),
  (8388607,⟨some 55,some (54,true),.load 29 (tt 6)⟩),
  (8388607,⟨some 56,some (54,true),.load 29 (tt 3)⟩),
  (33554431,⟨some 57,some (54,true),.call ⟨(.value (ff 18)),#[(tt 55),(tt 56)],#[29, 29]⟩⟩),
  (67108863,⟨some 58,none,.pick (tt 54) (tt 57) (cb false)⟩),
  (134217727,⟨some 59,none,.move (tt 58)⟩),
  (268435455,⟨some 60,some (59,true),.call ⟨(.value (ff 12)),#[],#[]⟩⟩),
  (536870911,⟨some 61,none,.pick (tt 59) (tt 60) (cb false)⟩),
  (1073741823,⟨some 4,none,.assign (tt 61)⟩)])
 (.ret))))))
theorem i3 : fnI Tryz.prog 3 = some (62,[.tmp 4],c3) := by kernel_rfl
theorem lk31 : lenK Tryz.prog 31 = 2 := by kernel_rfl
theorem nt3 : nilT Tryz.prog 3 = 0 := by kernel_rfl
theorem ar31 : arrT Tryz.prog 31 = none := by kernel_rfl
theorem fd29_1 : fieldT Tryz.prog 29 1 = some (2,false,1) := by kernel_rfl
theorem sh9 : shapeT Tryz.prog 9 = some (false,1) := by kernel_rfl
theorem lk9 : lenK Tryz.prog 9 = 1 := by kernel_rfl
theorem fd29_2 : fieldT Tryz.prog 29 2 = some (3,true,3) := by kernel_rfl
theorem sh26 : shapeT Tryz.prog 26 = some (true,3) := by kernel_rfl
theorem fd29_3 : fieldT Tryz.prog 29 3 = some (6,false,1) := by kernel_rfl
theorem sh27 : shapeT Tryz.prog 27 = some (false,1) := by kernel_rfl
theorem lk27 : lenK Tryz.prog 27 = 2 := by kernel_rfl
/-- tributary/tributarykit.LongEvents -/
def c11 : IC :=
 .seq (.ops [⟨some 4,none,.assign (cb false)⟩])
 (.seq (.seq (.ops [⟨some 5,none,.assign (ci 0)⟩])
 (.block 0 (.loop (.seq (.seq (.ops [⟨some 6,none,.move (tt 5)⟩,
    ⟨some 7,none,.move (tt 0)⟩,
    ⟨some 8,none,.call ⟨(.builtin .len),#[(tt 7)],#[31]⟩⟩,
    ⟨some 9,none,.binOp .lss 3 (tt 6) (tt 8) 3⟩,
    ⟨some 10,none,.move (tt 9)⟩,
    ⟨some 11,some (10,true),.move (tt 5)⟩,
    ⟨some 12,some (10,true),.move (tt 1)⟩,
    ⟨some 13,some (10,true),.binOp .leq 3 (tt 11) (tt 12) 3⟩,
    ⟨some 14,none,.pick (tt 10) (tt 13) (cb false)⟩])
   (.cond (tt 14) (.skip)
   (.exit 0)))
   (.seq (.block 1 (.seq (.ops [⟨some 17,none,.move (tt 0)⟩,
     ⟨some 18,none,.move (tt 5)⟩,
     ⟨some 19,none,.indexAddr 31 (tt 17) (tt 18)⟩,
     ⟨some 20,none,.fieldAddr 29 (tt 19) 1⟩,
     ⟨some 21,none,.load 9 (tt 20)⟩,
     ⟨some 22,none,.call ⟨(.builtin .len),#[(tt 21)],#[9]⟩⟩,
     ⟨some 23,none,.binOp .gtr 3 (tt 22) (ci 100) 3⟩,
     ⟨some 24,none,.move (tt 23)⟩,
     ⟨some 25,some (24,false),.move (tt 0)⟩,
     ⟨some 26,some (24,false),.move (tt 5)⟩,
     ⟨some 27,some (24,false),.indexAddr 31 (tt 25) (tt 26)⟩,
     ⟨some 28,some (24,false),.fieldAddr 29 (tt 27) 2⟩,
     ⟨some 29,some (24,false),.load 26 (tt 28)⟩,
     ⟨some 30,some (24,false),.call ⟨(.value (ff 64)),#[(tt 29)],#[26]⟩⟩,
     ⟨some 31,none,.pick (tt 24) (cb true) (tt 30)⟩,
     ⟨some 32,none,.move (tt 31)⟩,
     ⟨some 33,some (32,false),.move (tt 0)⟩,
     ⟨some 34,some (32,false),.move (tt 5)⟩,
     ⟨some 35,some (32,false),.indexAddr 31 (tt 33) (tt 34)⟩,
     ⟨some 36,some (32,false),.fieldAddr 29 (tt 35) 3⟩,
     ⟨some 37,some (32,false),.load 27 (tt 36)⟩,
     ⟨some 38,some (32,false),.call ⟨(.builtin .len),#[(tt 37)],#[27]⟩⟩,
     ⟨some 39,some (32,false),.binOp .gtr 3 (tt 38) (ci 100) 3⟩,
     ⟨some 40,none,.pick (tt 32) (cb true) (tt 39)⟩])
    (.cond (tt 40) (.seq (.ops [⟨some 4,none,.assign (cb true)⟩])
     (.ret))
    (.skip))))
   (.ops [⟨some 15,none,.move (tt 5)⟩,
    ⟨some 16,none,.binOp .add 3 (tt 15) (ci 1) 3⟩,
    ⟨some 5,none,.assign (tt 16)⟩]))))))
 (.seq (.ops [⟨some 41,none,.move (tt 0)⟩,
  ⟨some 42,none,.call ⟨(.builtin .len),#[(tt 41)],#[31]⟩⟩,
  ⟨some 43,none,.move (tt 1)⟩,
  ⟨some 44,none,.binOp .gtr 3 (tt 42) (tt 43) 3⟩,
  ⟨some 4,none,.assign (tt 44)⟩])
 (.ret)))
theorem i11 : fnI Tryz.prog 11 = some (45,[.tmp 4],c11) := by kernel_rfl
theorem sz26 : sizeT Tryz.prog 26 = some 3 := by kernel_rfl
theorem sz27 : sizeT Tryz.prog 27 = some 1 := by kernel_rfl
/-- tributary/tributarykit.CopyEvent -/
def c13 : IC :=
 .seq (.ops [⟨some 1,none,.box 29 (tt 0)⟩,
  ⟨some 2,none,.alloc 29⟩])
 (.seq (.ops [⟨some 3,none,.fieldAddr 29 (tt 1) 2⟩,
  ⟨some 4,none,.load 26 (tt 3)⟩,
  ⟨some 5,none,.call ⟨(.value (ff 68)),#[(tt 4)],#[26]⟩⟩,
  ⟨some 6,none,.fieldAddr 29 (tt 1) 2⟩,
  ⟨none,none,.store 26 (tt 6) (tt 5)⟩])
 (.seq (.ops [⟨some 7,none,.fieldAddr 29 (tt 1) 3⟩,
  ⟨some 8,none,.load 27 (tt 7)⟩,
  ⟨some 9,none,.call ⟨(.value (ff 69)),#[(tt 8)],#[27]⟩⟩,
  ⟨some 10,none,.fieldAddr 29 (tt 1) 3⟩,
  ⟨none,none,.store 27 (tt 10) (tt 9)⟩])
 (.seq (.ops [⟨some 11,none,.load 29 (tt 1)⟩,
  ⟨none,none,.store 29 (tt 2) (tt 11)⟩])
 (.ret))))
theorem i13 : fnI Tryz.prog 13 = some (12,[.cell 2 29],c13) := by kernel_rfl
theorem st35 : structT Tryz.prog 35 = some [(0,2), (2,2)] := by kernel_rfl
theorem fd29_0 : fieldT Tryz.prog 29 0 = some (0,true,2) := by kernel_rfl
theorem sh23 : shapeT Tryz.prog 23 = some (true,2) := by kernel_rfl
/-- tributary/clash.PairOf -/
def c14 : IC :=
 .seq (.ops [⟨some 2,none,.box 29 (tt 0)⟩,
  ⟨some 3,none,.box 29 (tt 1)⟩,
  ⟨some 4,none,.alloc 35⟩,
  ⟨some 5,none,.assign (ci 0)⟩])
 (.seq (.block 0 (.seq (.ops [⟨some 7,none,.load 29 (tt 2)⟩,
   ⟨some 8,none,.load 29 (tt 3)⟩,
   ⟨some 9,none,.call ⟨(.value (ff 16)),#[(tt 7),(tt 8)],#[29, 29]⟩⟩,
   ⟨some 10,none,.unOp .not 4 (tt 9)⟩,
   ⟨some 6,none,.assign (tt 10)⟩])
  (.cond (tt 6) (.seq (.ops [⟨some 11,none,.build 35 #[]⟩,
    ⟨none,none,.store 35 (tt 4) (tt 11)⟩,
    ⟨some 5,none,.assign (ci 2)⟩])
   (.ret))
  (.seq (.ops [⟨some 13,none,.fieldAddr 29 (tt 3) 0⟩,
    ⟨some 14,none,.load 23 (tt 13)⟩,
    ⟨some 15,none,.fieldAddr 29 (tt 2) 0⟩,
    ⟨some 16,none,.load 23 (tt 15)⟩,
    ⟨some 17,none,.call ⟨(.value (ff 35)),#[(tt 14),(tt 16)],#[23, 23]⟩⟩,
    ⟨some 12,none,.assign (tt 17)⟩])
   (.cond (tt 12) (.ops [⟨some 18,none,.load 29 (tt 3)⟩,
     ⟨some 19,none,.load 29 (tt 2)⟩,
     ⟨none,none,.store 29 (tt 2) (tt 18)⟩,
     ⟨none,none,.store 29 (tt 3) (tt 19)⟩])
   (.skip))))))
 (.seq (.ops [⟨some 20,none,.fieldAddr 29 (tt 2) 0⟩,
  ⟨some 21,none,.load 23 (tt 20)⟩,
  ⟨some 22,none,.fieldAddr 29 (tt 3) 0⟩,
  ⟨some 23,none,.load 23 (tt 22)⟩,
  ⟨some 24,none,.build 35 #[(0,(tt 21)),(1,(tt 23))]⟩,
  ⟨none,none,.store 35 (tt 4) (tt 24)⟩,
  ⟨some 5,none,.assign (ci 0)⟩])
 (.ret)))
theorem i14 : fnI Tryz.prog 14 = some (25,[.cell 4 35,.tmp 5],c14) := by kernel_rfl
/-- tributary/tributaryref11.PairOf -/
def c15 : IC :=
 .seq (.ops [⟨some 2,none,.box 29 (tt 0)⟩,
  ⟨some 3,none,.box 29 (tt 1)⟩,
  ⟨some 4,none,.alloc 35⟩,
  ⟨some 5,none,.assign (ci 0)⟩])
 (.seq (.seq (.ops [⟨some 6,none,.load 29 (tt 2)⟩,
  ⟨some 7,none,.load 29 (tt 3)⟩,
  ⟨some 8,none,.call ⟨(.value (ff 17)),#[(tt 6),(tt 7)],#[29, 29]⟩⟩,
  ⟨some 9,none,.unOp .not 4 (tt 8)⟩])
 (.cond (tt 9) (.seq (.ops [⟨some 10,none,.build 35 #[]⟩,
   ⟨none,none,.store 35 (tt 4) (tt 10)⟩,
   ⟨some 5,none,.assign (ci 2)⟩])
  (.ret))
 (.skip)))
 (.seq (.seq (.ops [⟨some 11,none,.fieldAddr 29 (tt 2) 0⟩,
  ⟨some 12,none,.load 23 (tt 11)⟩,
  ⟨some 13,none,.fieldAddr 29 (tt 3) 0⟩,
  ⟨some 14,none,.load 23 (tt 13)⟩,
  ⟨some 15,none,.call ⟨(.value (ff 70)),#[(tt 12),(tt 14)],#[23, 23]⟩⟩])
 (.cond (tt 15) (.seq (.ops [⟨some 16,none,.fieldAddr 29 (tt 2) 0⟩,
   ⟨some 17,none,.load 23 (tt 16)⟩,
   ⟨some 18,none,.fieldAddr 29 (tt 3) 0⟩,
   ⟨some 19,none,.load 23 (tt 18)⟩,
   ⟨some 20,none,.build 35 #[(0,(tt 17)),(1,(tt 19))]⟩,
   ⟨none,none,.store 35 (tt 4) (tt 20)⟩,
   ⟨some 5,none,.assign (ci 0)⟩])
  (.ret))
 (.skip)))
 (.seq (.ops [⟨some 21,none,.fieldAddr 29 (tt 3) 0⟩,
  ⟨some 22,none,.load 23 (tt 21)⟩,
  ⟨some 23,none,.fieldAddr 29 (tt 2) 0⟩,
  ⟨some 24,none,.load 23 (tt 23)⟩,
  ⟨some 25,none,.build 35 #[(0,(tt 22)),(1,(tt 24))]⟩,
  ⟨none,none,.store 35 (tt 4) (tt 25)⟩,
  ⟨some 5,none,.assign (ci 0)⟩])
 (.ret))))
theorem i15 : fnI Tryz.prog 15 = some (26,[.cell 4 35,.tmp 5],c15) := by kernel_rfl
theorem nt23 : nilT Tryz.prog 23 = 0 := by kernel_rfl
theorem nt9 : nilT Tryz.prog 9 = 0 := by kernel_rfl
/-- tributary/clash.Clash -/
def c16 : IC :=
 .seq (.ops [⟨some 2,none,.box 29 (tt 0)⟩,
  ⟨some 3,none,.box 29 (tt 1)⟩,
  ⟨some 4,none,.assign (cb false)⟩])
 (.seq (.seq (.ops [⟨some 5,none,.load 29 (tt 2)⟩,
  ⟨some 6,none,.call ⟨(.value (ff 42)),#[(tt 5)],#[29]⟩⟩,
  ⟨some 7,none,.binOp .neq 36 (tt 6) (ci 0) 36⟩,
  ⟨some 8,none,.move (tt 7)⟩,
  ⟨some 9,some (8,false),.load 29 (tt 3)⟩,
  ⟨some 10,some (8,false),.call ⟨(.value (ff 42)),#[(tt 9)],#[29]⟩⟩,
  ⟨some 11,some (8,false),.binOp .neq 36 (tt 10) (ci 0) 36⟩,
  ⟨some 12,none,.pick (tt 8) (cb true) (tt 11)⟩,
  ⟨some 13,none,.move (tt 12)⟩,
  ⟨some 14,some (13,false),.fieldAddr 29 (tt 2) 0⟩,
  ⟨some 15,some (13,false),.load 23 (tt 14)⟩,
  ⟨some 16,some (13,false),.fieldAddr 29 (tt 3) 0⟩,
  ⟨some 17,some (13,false),.load 23 (tt 16)⟩,
  ⟨some 18,some (13,false),.binOp .eql 23 (tt 15) (tt 17) 23⟩,
  ⟨some 19,none,.pick (tt 13) (cb true) (tt 18)⟩,
  ⟨some 20,none,.move (tt 19)⟩,
  ⟨some 21,some (20,false),.load 29 (tt 2)⟩,
  ⟨some 22,some (20,false),.load 29 (tt 3)⟩,
  ⟨some 23,some (20,false),.call ⟨(.value (ff 33)),#[(tt 21),(tt 22)],#[29, 29]⟩⟩,
  ⟨some 24,none,.pick (tt 20) (cb true) (tt 23)⟩,
  ⟨some 25,none,.move (tt 24)⟩,
  ⟨some 26,some (25,false),.load 29 (tt 3)⟩,
  ⟨some 27,some (25,false),.load 29 (tt 2)⟩,
  ⟨some 28,some (25,false),.call ⟨(.value (ff 33)),#[(tt 26),(tt 27)],#[29, 29]⟩⟩,
  ⟨some 29,none,.pick (tt 25) (cb true) (tt 28)⟩])
 (.cond (tt 29) (.seq (.ops [⟨some 4,none,.assign (cb false)⟩])
  (.ret))
 (.skip)))
 (.seq (.ops [⟨some 30,none,.fieldAddr 29 (tt 2) 1⟩,
  ⟨some 31,none,.load 9 (tt 30)⟩,
  ⟨some 32,none,.fieldAddr 29 (tt 3) 1⟩,
  ⟨some 33,none,.load 9 (tt 32)⟩,
  ⟨some 34,none,.binOp .eql 9 (tt 31) (tt 33) 9⟩,
  ⟨some 35,none,.move (tt 34)⟩,
  ⟨some 36,some (35,true),.fieldAddr 29 (tt 2) 2⟩,
  ⟨some 37,some (35,true),.load 26 (tt 36)⟩,
  ⟨some 38,some (35,true),.fieldAddr 29 (tt 3) 2⟩,
  ⟨some 39,some (35,true),.load 26 (tt 38)⟩,
  ⟨some 40,some (35,true),.call ⟨(.value (ff 71)),#[(tt 37),(tt 39)],#[26, 26]⟩⟩,
  ⟨some 41,some (35,true),.unOp .not 4 (tt 40)⟩,
  ⟨some 42,none,.pick (tt 35) (tt 41) (cb false)⟩,
  ⟨some 43,none,.move (tt 42)⟩,
  ⟨some 44,some (43,false),.load 29 (tt 2)⟩,
  ⟨some 45,some (43,false),.load 29 (tt 3)⟩,
  ⟨some 46,some (43,false),.call ⟨(.value (ff 72)),#[(tt 44),(tt 45)],#[29, 29]⟩⟩,
  ⟨some 47,none,.pick (tt 43) (cb true) (tt 46)⟩,
  ⟨some 48,none,.move (tt 47)⟩,
  ⟨some 49,some (48,false),.load 29 (tt 3)⟩,
  ⟨some 50,some (48,false),.load 29 (tt 2)⟩,
  ⟨some 51,some (48,false),.call ⟨(.value (ff 72)),#[(tt 49),(tt 50)],#[29, 29]⟩⟩,
  ⟨some 52,none,.pick (tt 48) (cb true) (tt 51)⟩,
  ⟨some 4,none,.assign (tt 52)⟩])
 (.ret)))
theorem i16 : fnI Tryz.prog 16 = some (53,[.tmp 4],c16) := by kernel_rfl
/-- tributary/tributaryref11.Clash -/
def c17 : IC :=
 .seq (.ops [⟨some 2,none,.box 29 (tt 0)⟩,
  ⟨some 3,none,.box 29 (tt 1)⟩,
  ⟨some 4,none,.assign (cb false)⟩])
 (.seq (.seq (.ops [⟨some 5,none,.load 29 (tt 2)⟩,
  ⟨some 6,none,.call ⟨(.value (ff 73)),#[(tt 5)],#[29]⟩⟩,
  ⟨some 7,none,.binOp .neq 36 (tt 6) (ci 0) 36⟩,
  ⟨some 8,none,.move (tt 7)⟩,
  ⟨some 9,some (8,false),.load 29 (tt 3)⟩,
  ⟨some 10,some (8,false),.call ⟨(.value (ff 73)),#[(tt 9)],#[29]⟩⟩,
  ⟨some 11,some (8,false),.binOp .neq 36 (tt 10) (ci 0) 36⟩,
  ⟨some 12,none,.pick (tt 8) (cb true) (tt 11)⟩,
  ⟨some 13,none,.move (tt 12)⟩,
  ⟨some 14,some (13,false),.fieldAddr 29 (tt 2) 0⟩,
  ⟨some 15,some (13,false),.load 23 (tt 14)⟩,
  ⟨some 16,some (13,false),.fieldAddr 29 (tt 3) 0⟩,
  ⟨some 17,some (13,false),.load 23 (tt 16)⟩,
  ⟨some 18,some (13,false),.binOp .eql 23 (tt 15) (tt 17) 23⟩,
  ⟨some 19,none,.pick (tt 13) (cb true) (tt 18)⟩,
  ⟨some 20,none,.move (tt 19)⟩,
  ⟨some 21,some (20,false),.load 29 (tt 2)⟩,
  ⟨some 22,some (20,false),.load 29 (tt 3)⟩,
  ⟨some 23,some (20,false),.call ⟨(.value (ff 74)),#[(tt 21),(tt 22)],#[29, 29]⟩⟩,
  ⟨some 24,none,.pick (tt 20) (cb true) (tt 23)⟩,
  ⟨some 25,none,.move (tt 24)⟩,
  ⟨some 26,some (25,false),.load 29 (tt 3)⟩,
  ⟨some 27,some (25,false),.load 29 (tt 2)⟩,
  ⟨some 28,some (25,false),.call ⟨(.value (ff 74)),#[(tt 26),(tt 27)],#[29, 29]⟩⟩,
  ⟨some 29,none,.pick (tt 25) (cb true) (tt 28)⟩])
 (.cond (tt 29) (.seq (.ops [⟨some 4,none,.assign (cb false)⟩])
  (.ret))
 (.skip)))
 (.seq (.ops [⟨some 30,none,.fieldAddr 29 (tt 2) 1⟩,
  ⟨some 31,none,.load 9 (tt 30)⟩,
  ⟨some 32,none,.fieldAddr 29 (tt 3) 1⟩,
  ⟨some 33,none,.load 9 (tt 32)⟩,
  ⟨some 34,none,.binOp .eql 9 (tt 31) (tt 33) 9⟩,
  ⟨some 35,none,.move (tt 34)⟩,
  ⟨some 36,some (35,true),.fieldAddr 29 (tt 2) 2⟩,
  ⟨some 37,some (35,true),.load 26 (tt 36)⟩,
  ⟨some 38,some (35,true),.fieldAddr 29 (tt 3) 2⟩,
  ⟨some 39,some (35,true),.load 26 (tt 38)⟩,
  ⟨some 40,some (35,true),.call ⟨(.value (ff 75)),#[(tt 37),(tt 39)],#[26, 26]⟩⟩,
  ⟨some 41,some (35,true),.unOp .not 4 (tt 40)⟩,
  ⟨some 42,none,.pick (tt 35) (tt 41) (cb false)⟩,
  ⟨some 43,none,.move (tt 42)⟩,
  ⟨some 44,some (43,false),.load 29 (tt 2)⟩,
  ⟨some 45,some (43,false),.load 29 (tt 3)⟩,
  ⟨some 46,some (43,false),.call ⟨(.value (ff 76)),#[(tt 44),(tt 45)],#[29, 29]⟩⟩,
  ⟨some 47,none,.pick (tt 43) (cb true) (tt 46)⟩,
  ⟨some 48,none,.move (tt 47)⟩,
  ⟨some 49,some (48,false),.load 29 (tt 3)⟩,
  ⟨some 50,some (48,false),.load 29 (tt 2)⟩,
  ⟨some 51,some (48,false),.call ⟨(.value (ff 76)),#[(tt 49),(tt 50)],#[29, 29]⟩⟩,
  ⟨some 52,none,.pick (tt 48) (cb true) (tt 51)⟩,
  ⟨some 4,none,.assign (tt 52)⟩])
 (.ret)))
theorem i17 : fnI Tryz.prog 17 = some (53,[.tmp 4],c17) := by kernel_rfl
/-- tributary/tributarykit.SameEvent -/
def c18 : IC :=
 .seq (.ops [⟨some 2,none,.box 29 (tt 0)⟩,
  ⟨some 3,none,.box 29 (tt 1)⟩,
  ⟨some 4,none,.assign (cb false)⟩])
 (.seq (.ops [⟨some 5,none,.fieldAddr 29 (tt 2) 0⟩,
  ⟨some 6,none,.load 23 (tt 5)⟩,
  ⟨some 7,none,.fieldAddr 29 (tt 3) 0⟩,
  ⟨some 8,none,.load 23 (tt 7)⟩,
  ⟨some 9,none,.binOp .eql 23 (tt 6) (tt 8) 23⟩,
  ⟨some 10,none,.move (tt 9)⟩,
  ⟨some 11,some (10,true),.fieldAddr 29 (tt 2) 1⟩,
  ⟨some 12,some (10,true),.load 9 (tt 11)⟩,
  ⟨some 13,some (10,true),.fieldAddr 29 (tt 3) 1⟩,
  ⟨some 14,some (10,true),.load 9 (tt 13)⟩,
  ⟨some 15,some (10,true),.binOp .eql 9 (tt 12) (tt 14) 9⟩,
  ⟨some 16,none,.pick (tt 10) (tt 15) (cb false)⟩,
  ⟨some 17,none,.move (tt 16)⟩,
  ⟨some 18,some (17,true),.fieldAddr 29 (tt 2) 2⟩,
  ⟨some 19,some (17,true),.load 26 (tt 18)⟩,
  ⟨some 20,some (17,true),.fieldAddr 29 (tt 3) 2⟩,
  ⟨some 21,some (17,true),.load 26 (tt 20)⟩,
  ⟨some 22,some (17,true),.call ⟨(.value (ff 77)),#[(tt 19),(tt 21)],#[26, 26]⟩⟩,
  ⟨some 23,none,.pick (tt 17) (tt 22) (cb false)⟩,
  ⟨some 24,none,.move (tt 23)⟩,
  ⟨some 25,some (24,true),.fieldAddr 29 (tt 2) 3⟩,
  ⟨some 26,some (24,true),.load 27 (tt 25)⟩,
  ⟨some 27,some (24,true),.fieldAddr 29 (tt 3) 3⟩,
  ⟨some 28,some (24,true),.load 27 (tt 27)⟩,
  ⟨some 29,some (24,true),.call ⟨(.value (ff 78)),#[(tt 26),(tt 28)],#[27, 27]⟩⟩,
  ⟨some 30,none,.pick (tt 24) (tt 29) (cb false)⟩,
  ⟨some 4,none,.assign (tt 30)⟩])
 (.ret))
theorem i18 : fnI Tryz.prog 18 = some (31,[.tmp 4],c18) := by kernel_rfl
/-- tributary/event.Ahead -/
def c33 : IC :=
 .seq (.ops [⟨some 2,none,.box 29 (tt 0)⟩,
  ⟨some 3,none,.box 29 (tt 1)⟩,
  ⟨some 4,none,.assign (cb false)⟩])
 (.seq (.ops [⟨some 5,none,.load 29 (tt 2)⟩,
  ⟨some 6,none,.call ⟨(.value (ff 42)),#[(tt 5)],#[29]⟩⟩,
  ⟨some 7,none,.binOp .eql 36 (tt 6) (ci 0) 36⟩,
  ⟨some 8,none,.move (tt 7)⟩,
  ⟨some 9,some (8,true),.load 29 (tt 3)⟩,
  ⟨some 10,some (8,true),.call ⟨(.value (ff 42)),#[(tt 9)],#[29]⟩⟩,
  ⟨some 11,some (8,true),.binOp .eql 36 (tt 10) (ci 0) 36⟩,
  ⟨some 12,none,.pick (tt 8) (tt 11) (cb false)⟩,
  ⟨some 13,none,.move (tt 12)⟩,
  ⟨some 14,some (13,true),.fieldAddr 29 (tt 3) 3⟩,
  ⟨some 15,some (13,true),.load 27 (tt 14)⟩,
  ⟨some 16,some (13,true),.fieldAddr 29 (tt 2) 0⟩,
  ⟨some 17,some (13,true),.load 23 (tt 16)⟩,
  ⟨some 18,some (13,true),.call ⟨(.value (ff 87)),#[(tt 15),(tt 17)],#[27, 23]⟩⟩,
  ⟨some 19,none,.pick (tt 13) (tt 18) (cb false)⟩,
  ⟨some 4,none,.assign (tt 19)⟩])
 (.ret))
theorem i33 : fnI Tryz.prog 33 = some (20,[.tmp 4],c33) := by kernel_rfl
/-- tributary/dot.Less -/
def c35 : IC :=
 .seq (.ops [⟨some 2,none,.box 23 (tt 0)⟩,
  ⟨some 3,none,.box 23 (tt 1)⟩,
  ⟨some 4,none,.assign (cb false)⟩])
 (.seq (.ops [⟨some 5,none,.load 23 (tt 2)⟩,
  ⟨some 6,none,.load 23 (tt 3)⟩,
  ⟨some 7,none,.call ⟨(.value (ff 88)),#[(tt 5),(tt 6)],#[23, 23]⟩⟩,
  ⟨some 8,none,.binOp .lss 3 (tt 7) (ci 0) 3⟩,
  ⟨some 4,none,.assign (tt 8)⟩])
 (.ret))
theorem i35 : fnI Tryz.prog 35 = some (9,[.tmp 4],c35) := by kernel_rfl
theorem ze114 : zeroT Tryz.prog 114 = some (.agg ⟨[.int .i64 0,.int .i64 0,.string ⟨#[]⟩,.int .i64 0,.int .i64 0,.slice none 0 0,.slice none 0 0]⟩) := by kernel_rfl
theorem st114 : structT Tryz.prog 114 = some [(0,7)] := by kernel_rfl
theorem sz114 : sizeT Tryz.prog 114 = some 7 := by kernel_rfl
theorem sh114 : shapeT Tryz.prog 114 = some (true,7) := by kernel_rfl
theorem sl115 : sliceT Tryz.prog 115 = some (32,false,1) := by kernel_rfl
theorem ze32 : zeroT Tryz.prog 32 = some (.nilFunc) := by kernel_rfl
theorem lk115 : lenK Tryz.prog 115 = 2 := by kernel_rfl
theorem ar115 : arrT Tryz.prog 115 = none := by kernel_rfl
theorem sh32 : shapeT Tryz.prog 32 = some (false,1) := by kernel_rfl
/-- tributary/event.Check -/
def c42 : IC :=
 .seq (.ops [⟨some 1,none,.box 29 (tt 0)⟩,
  ⟨some 2,none,.assign (ci 0)⟩])
 (.seq (.ops [⟨some 6,none,.load 29 (tt 1)⟩,
  ⟨some 7,none,.build 114 #[(0,(tt 6))]⟩,
  ⟨some 3,none,.alloc 114⟩,
  ⟨none,none,.store 114 (tt 3) (tt 7)⟩])
 (.seq (.seq (.ops [⟨some 8,none,.load 114 (tt 3)⟩,
  ⟨some 9,none,.makeFunc (.func 94) #[(tt 8)] #[]⟩,
  ⟨some 10,none,.load 114 (tt 3)⟩,
  ⟨some 11,none,.makeFunc (.func 95) #[(tt 10)] #[]⟩,
  ⟨some 12,none,.load 114 (tt 3)⟩,
  ⟨some 13,none,.makeFunc (.func 96) #[(tt 12)] #[]⟩,
  ⟨some 14,none,.load 114 (tt 3)⟩,
  ⟨some 15,none,.makeFunc (.func 97) #[(tt 14)] #[]⟩,
  ⟨some 16,none,.load 114 (tt 3)⟩,
  ⟨some 17,none,.makeFunc (.func 98) #[(tt 16)] #[]⟩,
  ⟨some 18,none,.buildSlice 115 5 #[(0,(tt 9)),(1,(tt 11)),(2,(tt 13)),(3,(tt 15)),(4,(tt 17))]⟩,
  ⟨some 19,none,.call ⟨(.builtin .len),#[(tt 18)],#[115]⟩⟩,
  ⟨some 20,none,.move (ci 0)⟩])
 (.block 0 (.loop (.seq (.ops [⟨some 21,none,.binOp .lss 3 (tt 20) (tt 19) 3⟩])
   (.seq (.cond (tt 21) (.skip)
   (.exit 0))
   (.seq (.block 1 (.seq (.ops [⟨some 22,none,.indexAddr 115 (tt 18) (tt 20)⟩,
     ⟨some 23,none,.load 32 (tt 22)⟩,
     ⟨some 5,none,.assign (tt 23)⟩])
    (.seq (.ops [⟨some 24,none,.move (tt 5)⟩,
     ⟨some 25,none,.call ⟨(.value (tt 24)),#[],#[]⟩⟩,
     ⟨some 26,none,.unOp .not 4 (tt 25)⟩])
    (.cond (tt 26) (.seq (.ops [⟨some 2,none,.assign (ci 2)⟩])
     (.ret))
    (.skip)))))
   (.ops [⟨some 27,none,.binOp .add 3 (tt 20) (ci 1) 3⟩,
    ⟨some 20,none,.move (tt 27)⟩])))))))
 (.seq (.ops [⟨some 2,none,.assign (ci 0)⟩])
 (.ret))))
theorem i42 : fnI Tryz.prog 42 = some (28,[.tmp 2],c42) := by kernel_rfl
theorem cv24_9 : cvK Tryz.prog 24 9 = .back := by kernel_rfl
/-- tributary/tributarykit.SameBytes -/
def c59 : IC :=
 .seq (.ops [⟨some 4,none,.assign (cb false)⟩])
 (.seq (.ops [⟨some 5,none,.move (tt 0)⟩,
  ⟨some 6,none,.convert 24 9 (tt 5)⟩,
  ⟨some 7,none,.move (tt 1)⟩,
  ⟨some 8,none,.convert 24 9 (tt 7)⟩,
  ⟨some 9,none,.binOp .eql 9 (tt 6) (tt 8) 9⟩,
  ⟨some 4,none,.assign (tt 9)⟩])
 (.ret))
theorem i59 : fnI Tryz.prog 59 = some (10,[.tmp 4],c59) := by kernel_rfl
theorem fd26_2 : fieldT Tryz.prog 26 2 = some (2,false,1) := by kernel_rfl
theorem sh24 : shapeT Tryz.prog 24 = some (false,1) := by kernel_rfl
theorem lk24 : lenK Tryz.prog 24 = 2 := by kernel_rfl
/-- tributary/tributarykit.LongEffect -/
def c64 : IC :=
 .seq (.ops [⟨some 1,none,.box 26 (tt 0)⟩,
  ⟨some 2,none,.assign (cb false)⟩])
 (.seq (.ops [⟨some 3,none,.fieldAddr 26 (tt 1) 2⟩,
  ⟨some 4,none,.load 24 (tt 3)⟩,
  ⟨some 5,none,.call ⟨(.builtin .len),#[(tt 4)],#[24]⟩⟩,
  ⟨some 6,none,.binOp .gtr 3 (tt 5) (ci 1200) 3⟩,
  ⟨some 2,none,.assign (tt 6)⟩])
 (.ret))
theorem i64 : fnI Tryz.prog 64 = some (7,[.tmp 2],c64) := by kernel_rfl
theorem ze26 : zeroT Tryz.prog 26 = some (.agg ⟨[.int .i64 0,.int .i64 0,.slice none 0 0]⟩) := by kernel_rfl
theorem sz24 : sizeT Tryz.prog 24 = some 1 := by kernel_rfl
/-- tributary/tributarykit.CopyEffect -/
def c68 : IC :=
 .seq (.ops [⟨some 1,none,.box 26 (tt 0)⟩,
  ⟨some 2,none,.alloc 26⟩])
 (.seq (.ops [⟨some 3,none,.fieldAddr 26 (tt 1) 2⟩,
  ⟨some 4,none,.load 24 (tt 3)⟩,
  ⟨some 5,none,.call ⟨(.value (ff 112)),#[(tt 4)],#[24]⟩⟩,
  ⟨some 6,none,.fieldAddr 26 (tt 1) 2⟩,
  ⟨none,none,.store 24 (tt 6) (tt 5)⟩])
 (.seq (.ops [⟨some 7,none,.load 26 (tt 1)⟩,
  ⟨none,none,.store 26 (tt 2) (tt 7)⟩])
 (.ret)))
theorem i68 : fnI Tryz.prog 68 = some (8,[.cell 2 26],c68) := by kernel_rfl
theorem sl27 : sliceT Tryz.prog 27 = some (112,true,3) := by kernel_rfl
theorem ze112 : zeroT Tryz.prog 112 = some (.agg ⟨[.int .i64 0,.int .i64 0,.int .i64 0]⟩) := by kernel_rfl
theorem by112 : bytesT Tryz.prog 112 = some 24 := by kernel_rfl
theorem in27 : isIntD (Tryz.prog.underlying 27) = some false := by kernel_rfl
/-- tributary/tributarykit.CopySpans -/
def c69 : IC :=
 .seq (.ops [⟨some 2,none,.assign (.const (.slice none 0 0))⟩])
 (.seq (.ops [⟨some 3,none,.buildSlice 27 0 #[]⟩,
  ⟨some 4,none,.move (tt 0)⟩,
  ⟨some 5,none,.call ⟨(.builtin .append),#[(tt 3),(tt 4)],#[27, 27]⟩⟩,
  ⟨some 2,none,.assign (tt 5)⟩])
 (.ret))
theorem i69 : fnI Tryz.prog 69 = some (6,[.tmp 2],c69) := by kernel_rfl
theorem fd23_0 : fieldT Tryz.prog 23 0 = some (0,false,1) := by kernel_rfl
theorem sh3 : shapeT Tryz.prog 3 = some (false,1) := by kernel_rfl
theorem fd23_1 : fieldT Tryz.prog 23 1 = some (1,false,1) := by kernel_rfl
/-- tributary/tributaryref06.Less -/
def c70 : IC :=
 .seq (.ops [⟨some 2,none,.box 23 (tt 0)⟩,
  ⟨some 3,none,.box 23 (tt 1)⟩,
  ⟨some 4,none,.assign (cb false)⟩])
 (.seq (.ops [⟨some 5,none,.fieldAddr 23 (tt 2) 0⟩,
  ⟨some 6,none,.load 3 (tt 5)⟩,
  ⟨some 7,none,.fieldAddr 23 (tt 3) 0⟩,
  ⟨some 8,none,.load 3 (tt 7)⟩,
  ⟨some 9,none,.binOp .lss 3 (tt 6) (tt 8) 3⟩,
  ⟨some 10,none,.move (tt 9)⟩,
  ⟨some 11,some (10,false),.fieldAddr 23 (tt 2) 0⟩,
  ⟨some 12,some (10,false),.load 3 (tt 11)⟩,
  ⟨some 13,some (10,false),.fieldAddr 23 (tt 3) 0⟩,
  ⟨some 14,some (10,false),.load 3 (tt 13)⟩,
  ⟨some 15,some (10,false),.binOp .eql 3 (tt 12) (tt 14) 3⟩,
  ⟨some 16,some (10,false),.move (tt 15)⟩,
  ⟨some 17,some (16,true),.fieldAddr 23 (tt 2) 1⟩,
  ⟨some 18,some (16,true),.load 3 (tt 17)⟩,
  ⟨some 19,some (16,true),.fieldAddr 23 (tt 3) 1⟩,
  ⟨some 20,some (16,true),.load 3 (tt 19)⟩,
  ⟨some 21,some (16,true),.binOp .lss 3 (tt 18) (tt 20) 3⟩,
  ⟨some 22,some (10,false),.pick (tt 16) (tt 21) (cb false)⟩,
  ⟨some 23,none,.pick (tt 10) (cb true) (tt 22)⟩,
  ⟨some 4,none,.assign (tt 23)⟩])
 (.ret))
theorem i70 : fnI Tryz.prog 70 = some (24,[.tmp 4],c70) := by kernel_rfl
/-- tributary/effect.Same -/
def c71 : IC :=
 .seq (.ops [⟨some 2,none,.box 26 (tt 0)⟩,
  ⟨some 3,none,.box 26 (tt 1)⟩,
  ⟨some 4,none,.assign (cb false)⟩])
 (.seq (.ops [⟨some 5,none,.load 26 (tt 2)⟩,
  ⟨some 6,none,.load 26 (tt 3)⟩,
  ⟨some 7,none,.call ⟨(.value (ff 126)),#[(tt 5),(tt 6)],#[26, 26]⟩⟩,
  ⟨some 8,none,.binOp .eql 3 (tt 7) (ci 0) 3⟩,
  ⟨some 4,none,.assign (tt 8)⟩])
 (.ret))
theorem i71 : fnI Tryz.prog 71 = some (9,[.tmp 4],c71) := by kernel_rfl
theorem fd26_0 : fieldT Tryz.prog 26 0 = some (0,false,1) := by kernel_rfl
/-- tributary/clash.over -/
def c72 : IC :=
 .seq (.ops [⟨some 2,none,.box 29 (tt 0)⟩,
  ⟨some 3,none,.box 29 (tt 1)⟩,
  ⟨some 4,none,.assign (cb false)⟩])
 (.seq (.ops [⟨some 5,none,.fieldAddr 29 (tt 2) 1⟩,
  ⟨some 6,none,.load 9 (tt 5)⟩,
  ⟨some 7,none,.fieldAddr 29 (tt 3) 1⟩,
  ⟨some 8,none,.load 9 (tt 7)⟩,
  ⟨some 9,none,.call ⟨(.value (ff 86)),#[(tt 6),(tt 8)],#[9, 9]⟩⟩,
  ⟨some 10,none,.move (tt 9)⟩,
  ⟨some 11,some (10,true),.fieldAddr 29 (tt 2) 2⟩,
  ⟨some 12,some (10,true),.fieldAddr 26 (tt 11) 0⟩,
  ⟨some 13,some (10,true),.load 3 (tt 12)⟩,
  ⟨some 14,some (10,true),.binOp .neq 3 (tt 13) (ci 2) 3⟩,
  ⟨some 15,none,.pick (tt 10) (tt 14) (cb false)⟩,
  ⟨some 16,none,.move (tt 15)⟩,
  ⟨some 17,some (16,true),.fieldAddr 29 (tt 3) 2⟩,
  ⟨some 18,some (16,true),.fieldAddr 26 (tt 17) 0⟩,
  ⟨some 19,some (16,true),.load 3 (tt 18)⟩,
  ⟨some 20,some (16,true),.binOp .neq 3 (tt 19) (ci 3) 3⟩,
  ⟨some 21,none,.pick (tt 16) (tt 20) (cb false)⟩,
  ⟨some 4,none,.assign (tt 21)⟩])
 (.ret))
theorem i72 : fnI Tryz.prog 72 = some (22,[.tmp 4],c72) := by kernel_rfl
/-- tributary/tributaryref08.Check -/
def c73 : IC :=
 .seq (.ops [⟨some 1,none,.box 29 (tt 0)⟩,
  ⟨some 2,none,.assign (ci 0)⟩])
 (.seq (.seq (.drw [(0,⟨some 3,none,.fieldAddr 29 (tt 1) 0⟩),
  (1,⟨some 4,none,.load 23 (tt 3)⟩),
  (3,⟨some 5,none,.call ⟨(.value (ff 111)),#[(tt 4)],#[23]⟩⟩),
  (7,⟨some 6,none,.binOp .neq 36 (tt 5) (ci 0) 36⟩),
  (15,⟨some 7,none,.move (tt 6)⟩),
  (31,⟨some 8,some (7,false),.fieldAddr 29 (tt 1) 1⟩),
  (63,⟨some 9,some (7,false),.load 9 (tt 8)⟩),
  (127,⟨some 10,some (7,false),.call ⟨(.value (ff 127)),#[(tt 9)],#[9]⟩⟩),
  (255,⟨some 11,some (7,false),.binOp .neq 36 (tt 10) (ci 0) 36⟩),
  (511,⟨some 12,none,.pick (tt 7) (cb true) (tt 11)⟩),
  (1023,⟨some 13,none,.move (tt 12)⟩),
  (2047,⟨some 14,some (13,false),.fieldAddr 29 (tt 1) 2⟩),
  (4095,⟨some 15,some (13,false),.load 26 (tt 14)⟩),
  (8191,⟨some 16,some (13,false),.call ⟨(.value (ff 128)),#[(tt 15)],#[26]⟩⟩),
  (16383,⟨some 17,some (13,false),.binOp .neq 36 (tt 16) (ci 0) 36⟩),
  (32767,⟨some 18,none,.pick (tt 13) (cb true) (tt 17)⟩),
  (65535,⟨some 19,none,.move (tt 18)⟩),
  (131071,⟨some 20,some (19,false),.fieldAddr 29 (tt 1) 3⟩),
  (262143,⟨some 21,some (19,false),.load 27 (tt 20)⟩),
  (524287,⟨some 22,some (19,false),.call ⟨(.value (ff 129)),#[(tt 21)],#[27]⟩⟩),
  (1048575,⟨some 23,some (19,false),.binOp .neq 36 (tt 22) (ci 0) 36⟩),
  (2097151,⟨some 24,none,.pick (tt 19) (cb true) (tt 23)⟩),
  (4194303,⟨some 25,none,.move (tt 24)⟩),
  (8388607,⟨some 26,some (25,false),.fieldAddr 29 (tt 1) 3⟩),
  (16777215,⟨some 27,some (25,false),.load 27 (tt 26)⟩),
  (8388607,⟨some 28,some (25,false),.fieldAddr 29 (tt 1) 0⟩),
  (41943039,⟨some 29,some (25,false),.fieldAddr 23 (tt 28) 0⟩),
  (109051903,⟨some 30,some (25,false),.load 3 (tt 29)⟩),
  (268435455,⟨some 31,some (25,false),.call ⟨(.value (ff 130)),#[(tt 27),(tt 30)],#[27, 3]⟩⟩),
  (8388607,⟨some 32,some (25,false),.fieldAddr 29 (tt 1) 0⟩),
  (545259519,⟨some 33,some (25,false),.fieldAddr 23 (tt 32) 1⟩),
  (1619001343,⟨some 34,some (25,false),.load 3 (tt 33)⟩),
  (4294967295,⟨some 35,some (25,false),.binOp .geq 3 (tt 31) (tt 34) 3⟩),
  (8589934591,⟨some 36,none,.pick (tt 25) (cb true) (tt 35)⟩)])
 (.cond (tt 36) (.seq (.ops [⟨some 2,none,.assign (ci 2)⟩])
  (.ret))
 (.skip)))
 (.seq (.ops [⟨some 2,none,.assign (ci 0)⟩])
 (.ret)))
theorem i73 : fnI Tryz.prog 73 = some (37,[.tmp 2],c73) := by kernel_rfl
/-- tributary/tributaryref08.Ahead -/
def c74 : IC :=
 .seq (.ops [⟨some 2,none,.box 29 (tt 0)⟩,
  ⟨some 3,none,.box 29 (tt 1)⟩,
  ⟨some 4,none,.assign (cb false)⟩])
 (.seq (.ops [⟨some 5,none,.load 29 (tt 2)⟩,
  ⟨some 6,none,.call ⟨(.value (ff 73)),#[(tt 5)],#[29]⟩⟩,
  ⟨some 7,none,.binOp .eql 36 (tt 6) (ci 0) 36⟩,
  ⟨some 8,none,.move (tt 7)⟩,
  ⟨some 9,some (8,true),.load 29 (tt 3)⟩,
  ⟨some 10,some (8,true),.call ⟨(.value (ff 73)),#[(tt 9)],#[29]⟩⟩,
  ⟨some 11,some (8,true),.binOp .eql 36 (tt 10) (ci 0) 36⟩,
  ⟨some 12,none,.pick (tt 8) (tt 11) (cb false)⟩,
  ⟨some 13,none,.move (tt 12)⟩,
  ⟨some 14,some (13,true),.fieldAddr 29 (tt 3) 3⟩,
  ⟨some 15,some (13,true),.load 27 (tt 14)⟩,
  ⟨some 16,some (13,true),.fieldAddr 29 (tt 2) 0⟩,
  ⟨some 17,some (13,true),.load 23 (tt 16)⟩,
  ⟨some 18,some (13,true),.call ⟨(.value (ff 131)),#[(tt 15),(tt 17)],#[27, 23]⟩⟩,
  ⟨some 19,none,.pick (tt 13) (tt 18) (cb false)⟩,
  ⟨some 4,none,.assign (tt 19)⟩])
 (.ret))
theorem i74 : fnI Tryz.prog 74 = some (20,[.tmp 4],c74) := by kernel_rfl
theorem fd26_1 : fieldT Tryz.prog 26 1 = some (1,false,1) := by kernel_rfl
/-- tributary/tributaryref04.Same -/
def c75 : IC :=
 .seq (.ops [⟨some 2,none,.box 26 (tt 0)⟩,
  ⟨some 3,none,.box 26 (tt 1)⟩,
  ⟨some 4,none,.assign (cb false)⟩])
 (.seq (.ops [⟨some 5,none,.fieldAddr 26 (tt 2) 0⟩,
  ⟨some 6,none,.load 3 (tt 5)⟩,
  ⟨some 7,none,.fieldAddr 26 (tt 3) 0⟩,
  ⟨some 8,none,.load 3 (tt 7)⟩,
  ⟨some 9,none,.binOp .eql 3 (tt 6) (tt 8) 3⟩,
  ⟨some 10,none,.move (tt 9)⟩,
  ⟨some 11,some (10,true),.fieldAddr 26 (tt 2) 1⟩,
  ⟨some 12,some (10,true),.load 3 (tt 11)⟩,
  ⟨some 13,some (10,true),.fieldAddr 26 (tt 3) 1⟩,
  ⟨some 14,some (10,true),.load 3 (tt 13)⟩,
  ⟨some 15,some (10,true),.binOp .eql 3 (tt 12) (tt 14) 3⟩,
  ⟨some 16,none,.pick (tt 10) (tt 15) (cb false)⟩,
  ⟨some 17,none,.move (tt 16)⟩,
  ⟨some 18,some (17,true),.fieldAddr 26 (tt 2) 2⟩,
  ⟨some 19,some (17,true),.load 24 (tt 18)⟩,
  ⟨some 20,some (17,true),.convert 24 9 (tt 19)⟩,
  ⟨some 21,some (17,true),.fieldAddr 26 (tt 3) 2⟩,
  ⟨some 22,some (17,true),.load 24 (tt 21)⟩,
  ⟨some 23,some (17,true),.convert 24 9 (tt 22)⟩,
  ⟨some 24,some (17,true),.binOp .eql 9 (tt 20) (tt 23) 9⟩,
  ⟨some 25,none,.pick (tt 17) (tt 24) (cb false)⟩,
  ⟨some 4,none,.assign (tt 25)⟩])
 (.ret))
theorem i75 : fnI Tryz.prog 75 = some (26,[.tmp 4],c75) := by kernel_rfl
/-- tributary/tributaryref11.over -/
def c76 : IC :=
 .seq (.ops [⟨some 2,none,.box 29 (tt 0)⟩,
  ⟨some 3,none,.box 29 (tt 1)⟩,
  ⟨some 4,none,.assign (cb false)⟩])
 (.seq (.ops [⟨some 5,none,.fieldAddr 29 (tt 2) 1⟩,
  ⟨some 6,none,.load 9 (tt 5)⟩,
  ⟨some 7,none,.fieldAddr 29 (tt 3) 1⟩,
  ⟨some 8,none,.load 9 (tt 7)⟩,
  ⟨some 9,none,.call ⟨(.value (ff 132)),#[(tt 6),(tt 8)],#[9, 9]⟩⟩,
  ⟨some 10,none,.move (tt 9)⟩,
  ⟨some 11,some (10,true),.fieldAddr 29 (tt 2) 2⟩,
  ⟨some 12,some (10,true),.fieldAddr 26 (tt 11) 0⟩,
  ⟨some 13,some (10,true),.load 3 (tt 12)⟩,
  ⟨some 14,some (10,true),.binOp .neq 3 (tt 13) (ci 2) 3⟩,
  ⟨some 15,none,.pick (tt 10) (tt 14) (cb false)⟩,
  ⟨some 16,none,.move (tt 15)⟩,
  ⟨some 17,some (16,true),.fieldAddr 29 (tt 3) 2⟩,
  ⟨some 18,some (16,true),.fieldAddr 26 (tt 17) 0⟩,
  ⟨some 19,some (16,true),.load 3 (tt 18)⟩,
  ⟨some 20,some (16,true),.binOp .neq 3 (tt 19) (ci 3) 3⟩,
  ⟨some 21,none,.pick (tt 16) (tt 20) (cb false)⟩,
  ⟨some 4,none,.assign (tt 21)⟩])
 (.ret))
theorem i76 : fnI Tryz.prog 76 = some (22,[.tmp 4],c76) := by kernel_rfl
/-- tributary/tributarykit.SameEffect -/
def c77 : IC :=
 .seq (.ops [⟨some 2,none,.box 26 (tt 0)⟩,
  ⟨some 3,none,.box 26 (tt 1)⟩,
  ⟨some 4,none,.assign (cb false)⟩])
 (.seq (.ops [⟨some 5,none,.fieldAddr 26 (tt 2) 0⟩,
  ⟨some 6,none,.load 3 (tt 5)⟩,
  ⟨some 7,none,.fieldAddr 26 (tt 3) 0⟩,
  ⟨some 8,none,.load 3 (tt 7)⟩,
  ⟨some 9,none,.binOp .eql 3 (tt 6) (tt 8) 3⟩,
  ⟨some 10,none,.move (tt 9)⟩,
  ⟨some 11,some (10,true),.fieldAddr 26 (tt 2) 1⟩,
  ⟨some 12,some (10,true),.load 3 (tt 11)⟩,
  ⟨some 13,some (10,true),.fieldAddr 26 (tt 3) 1⟩,
  ⟨some 14,some (10,true),.load 3 (tt 13)⟩,
  ⟨some 15,some (10,true),.binOp .eql 3 (tt 12) (tt 14) 3⟩,
  ⟨some 16,none,.pick (tt 10) (tt 15) (cb false)⟩,
  ⟨some 17,none,.move (tt 16)⟩,
  ⟨some 18,some (17,true),.fieldAddr 26 (tt 2) 2⟩,
  ⟨some 19,some (17,true),.load 24 (tt 18)⟩,
  ⟨some 20,some (17,true),.fieldAddr 26 (tt 3) 2⟩,
  ⟨some 21,some (17,true),.load 24 (tt 20)⟩,
  ⟨some 22,some (17,true),.call ⟨(.value (ff 59)),#[(tt 19),(tt 21)],#[24, 24]⟩⟩,
  ⟨some 23,none,.pick (tt 17) (tt 22) (cb false)⟩,
  ⟨some 4,none,.assign (tt 23)⟩])
 (.ret))
theorem i77 : fnI Tryz.prog 77 = some (24,[.tmp 4],c77) := by kernel_rfl
theorem ar27 : arrT Tryz.prog 27 = none := by kernel_rfl
theorem sh112 : shapeT Tryz.prog 112 = some (true,3) := by kernel_rfl
theorem nt112 : nilT Tryz.prog 112 = 0 := by kernel_rfl
/-- tributary/tributarykit.SameSpans -/
def c78 : IC :=
 .seq (.ops [⟨some 4,none,.assign (cb false)⟩])
 (.seq (.seq (.ops [⟨some 6,none,.move (tt 0)⟩,
  ⟨some 7,none,.call ⟨(.builtin .len),#[(tt 6)],#[27]⟩⟩,
  ⟨some 8,none,.move (tt 1)⟩,
  ⟨some 9,none,.call ⟨(.builtin .len),#[(tt 8)],#[27]⟩⟩,
  ⟨some 10,none,.binOp .neq 3 (tt 7) (tt 9) 3⟩])
 (.cond (tt 10) (.seq (.ops [⟨some 4,none,.assign (cb false)⟩])
  (.ret))
 (.skip)))
 (.seq (.seq (.ops [⟨some 5,none,.assign (ci 0)⟩])
 (.block 0 (.loop (.seq (.seq (.ops [⟨some 11,none,.move (tt 5)⟩,
    ⟨some 12,none,.move (tt 0)⟩,
    ⟨some 13,none,.call ⟨(.builtin .len),#[(tt 12)],#[27]⟩⟩,
    ⟨some 14,none,.binOp .lss 3 (tt 11) (tt 13) 3⟩])
   (.cond (tt 14) (.skip)
   (.exit 0)))
   (.seq (.block 1 (.seq (.drw [(0,⟨some 17,none,.move (tt 0)⟩),
     (0,⟨some 18,none,.move (tt 5)⟩),
     (3,⟨some 19,none,.indexAddr 27 (tt 17) (tt 18)⟩),
     (7,⟨some 20,none,.load 112 (tt 19)⟩),
     (0,⟨some 21,none,.move (tt 1)⟩),
     (0,⟨some 22,none,.move (tt 5)⟩),
     (48,⟨some 23,none,.indexAddr 27 (tt 21) (tt 22)⟩),
     (112,⟨some 24,none,.load 112 (tt 23)⟩),
     (255,⟨some 25,none,.binOp .neq 112 (tt 20) (tt 24) 112⟩)])
    (.cond (tt 25) (.seq (.ops [⟨some 4,none,.assign (cb false)⟩])
     (.ret))
    (.skip))))
   (.ops [⟨some 15,none,.move (tt 5)⟩,
    ⟨some 16,none,.binOp .add 3 (tt 15) (ci 1) 3⟩,
    ⟨some 5,none,.assign (tt 16)⟩]))))))
 (.seq (.ops [⟨some 4,none,.assign (cb true)⟩])
 (.ret))))
theorem i78 : fnI Tryz.prog 78 = some (26,[.tmp 4],c78) := by kernel_rfl
/-- tributary/path.Under -/
def c86 : IC :=
 .seq (.ops [⟨some 4,none,.assign (cb false)⟩])
 (.seq (.seq (.ops [⟨some 7,none,.move (tt 0)⟩,
  ⟨some 8,none,.call ⟨(.value (ff 38)),#[(tt 7)],#[9]⟩⟩,
  ⟨some 9,none,.binOp .neq 36 (tt 8) (ci 0) 36⟩,
  ⟨some 10,none,.move (tt 9)⟩,
  ⟨some 11,some (10,false),.move (tt 1)⟩,
  ⟨some 12,some (10,false),.call ⟨(.value (ff 38)),#[(tt 11)],#[9]⟩⟩,
  ⟨some 13,some (10,false),.binOp .neq 36 (tt 12) (ci 0) 36⟩,
  ⟨some 14,none,.pick (tt 10) (cb true) (tt 13)⟩])
 (.cond (tt 14) (.seq (.ops [⟨some 4,none,.assign (cb false)⟩])
  (.ret))
 (.skip)))
 (.seq (.ops [⟨some 16,none,.move (tt 1)⟩,
  ⟨some 17,none,.move (tt 0)⟩,
  ⟨some 18,none,.call ⟨(.value (ff 141)),#[(tt 16),(tt 17)],#[9, 9]⟩⟩,
  ⟨some 15,none,.move (tt 18)⟩,
  ⟨some 19,none,.extract (tt 15) 0⟩,
  ⟨some 20,none,.extract (tt 15) 1⟩,
  ⟨some 5,none,.assign (tt 19)⟩,
  ⟨some 6,none,.assign (tt 20)⟩])
 (.seq (.ops [⟨some 21,none,.move (tt 6)⟩,
  ⟨some 22,none,.move (tt 21)⟩,
  ⟨some 23,some (22,true),.move (tt 5)⟩,
  ⟨some 24,some (22,true),.call ⟨(.value (ff 142)),#[(tt 23),(.const (.string ⟨#[47]⟩))],#[9, 9]⟩⟩,
  ⟨some 25,none,.pick (tt 22) (tt 24) (cb false)⟩,
  ⟨some 4,none,.assign (tt 25)⟩])
 (.ret))))
theorem i86 : fnI Tryz.prog 86 = some (26,[.tmp 4],c86) := by kernel_rfl
/-- tributary/past.Has -/
def c87 : IC :=
 .seq (.ops [⟨some 3,none,.box 23 (tt 1)⟩,
  ⟨some 4,none,.assign (cb false)⟩])
 (.seq (.ops [⟨some 5,none,.move (tt 0)⟩,
  ⟨some 6,none,.call ⟨(.value (ff 143)),#[(tt 5)],#[27]⟩⟩,
  ⟨some 7,none,.binOp .eql 36 (tt 6) (ci 0) 36⟩,
  ⟨some 8,none,.move (tt 7)⟩,
  ⟨some 9,some (8,true),.move (tt 0)⟩,
  ⟨some 10,some (8,true),.makeFunc (.func 145) #[] #[(tt 3)]⟩,
  ⟨some 11,some (8,true),.call ⟨(.value (ff 144)),#[(tt 9),(tt 10)],#[27, 161]⟩⟩,
  ⟨some 12,none,.pick (tt 8) (tt 11) (cb false)⟩,
  ⟨some 4,none,.assign (tt 12)⟩])
 (.ret))
theorem i87 : fnI Tryz.prog 87 = some (13,[.tmp 4],c87) := by kernel_rfl
theorem sl134 : sliceT Tryz.prog 134 = some (3,false,1) := by kernel_rfl
theorem ze3 : zeroT Tryz.prog 3 = some (.int .i64 0) := by kernel_rfl
/-- tributary/dot.order -/
def c88 : IC :=
 .seq (.ops [⟨some 2,none,.box 23 (tt 0)⟩,
  ⟨some 3,none,.box 23 (tt 1)⟩,
  ⟨some 4,none,.assign (ci 0)⟩])
 (.seq (.drw [(0,⟨some 5,none,.fieldAddr 23 (tt 2) 0⟩),
  (1,⟨some 6,none,.load 3 (tt 5)⟩),
  (0,⟨some 7,none,.fieldAddr 23 (tt 3) 0⟩),
  (4,⟨some 8,none,.load 3 (tt 7)⟩),
  (15,⟨some 9,none,.call ⟨(.value (ff 137)),#[(tt 6),(tt 8)],#[3, 3]⟩⟩),
  (0,⟨some 10,none,.fieldAddr 23 (tt 2) 1⟩),
  (32,⟨some 11,none,.load 3 (tt 10)⟩),
  (0,⟨some 12,none,.fieldAddr 23 (tt 3) 1⟩),
  (128,⟨some 13,none,.load 3 (tt 12)⟩),
  (511,⟨some 14,none,.call ⟨(.value (ff 137)),#[(tt 11),(tt 13)],#[3, 3]⟩⟩),
  (1023,⟨some 15,none,.buildSlice 134 2 #[(0,(tt 9)),(1,(tt 14))]⟩),
  (2047,⟨some 16,none,.call ⟨(.value (ff 136)),#[(tt 15)],#[134]⟩⟩),
  (4095,⟨some 4,none,.assign (tt 16)⟩)])
 (.ret))
theorem i88 : fnI Tryz.prog 88 = some (17,[.tmp 4],c88) := by kernel_rfl
theorem fd114_0 : fieldT Tryz.prog 114 0 = some (0,true,7) := by kernel_rfl
/-- (tributary/event.asked).dot -/
def c94 : IC :=
 .seq (.ops [⟨some 1,none,.box 114 (tt 0)⟩,
  ⟨some 2,none,.assign (cb false)⟩])
 (.seq (.ops [⟨some 3,none,.fieldAddr 114 (tt 1) 0⟩,
  ⟨some 4,none,.fieldAddr 29 (tt 3) 0⟩,
  ⟨some 5,none,.load 23 (tt 4)⟩,
  ⟨some 6,none,.call ⟨(.value (ff 110)),#[(tt 5)],#[23]⟩⟩,
  ⟨some 7,none,.binOp .eql 36 (tt 6) (ci 0) 36⟩,
  ⟨some 2,none,.assign (tt 7)⟩])
 (.ret))
theorem i94 : fnI Tryz.prog 94 = some (8,[.tmp 2],c94) := by kernel_rfl
/-- (tributary/event.asked).path -/
def c95 : IC :=
 .seq (.ops [⟨some 1,none,.box 114 (tt 0)⟩,
  ⟨some 2,none,.assign (cb false)⟩])
 (.seq (.ops [⟨some 3,none,.fieldAddr 114 (tt 1) 0⟩,
  ⟨some 4,none,.fieldAddr 29 (tt 3) 1⟩,
  ⟨some 5,none,.load 9 (tt 4)⟩,
  ⟨some 6,none,.call ⟨(.value (ff 38)),#[(tt 5)],#[9]⟩⟩,
  ⟨some 7,none,.binOp .eql 36 (tt 6) (ci 0) 36⟩,
  ⟨some 2,none,.assign (tt 7)⟩])
 (.ret))
theorem i95 : fnI Tryz.prog 95 = some (8,[.tmp 2],c95) := by kernel_rfl
/-- (tributary/event.asked).effect -/
def c96 : IC :=
 .seq (.ops [⟨some 1,none,.box 114 (tt 0)⟩,
  ⟨some 2,none,.assign (cb false)⟩])
 (.seq (.ops [⟨some 3,none,.fieldAddr 114 (tt 1) 0⟩,
  ⟨some 4,none,.fieldAddr 29 (tt 3) 2⟩,
  ⟨some 5,none,.load 26 (tt 4)⟩,
  ⟨some 6,none,.call ⟨(.value (ff 154)),#[(tt 5)],#[26]⟩⟩,
  ⟨some 7,none,.binOp .eql 36 (tt 6) (ci 0) 36⟩,
  ⟨some 2,none,.assign (tt 7)⟩])
 (.ret))
theorem i96 : fnI Tryz.prog 96 = some (8,[.tmp 2],c96) := by kernel_rfl
/-- (tributary/event.asked).past -/
def c97 : IC :=
 .seq (.ops [⟨some 1,none,.box 114 (tt 0)⟩,
  ⟨some 2,none,.assign (cb false)⟩])
 (.seq (.ops [⟨some 3,none,.fieldAddr 114 (tt 1) 0⟩,
  ⟨some 4,none,.fieldAddr 29 (tt 3) 3⟩,
  ⟨some 5,none,.load 27 (tt 4)⟩,
  ⟨some 6,none,.call ⟨(.value (ff 143)),#[(tt 5)],#[27]⟩⟩,
  ⟨some 7,none,.binOp .eql 36 (tt 6) (ci 0) 36⟩,
  ⟨some 2,none,.assign (tt 7)⟩])
 (.ret))
theorem i97 : fnI Tryz.prog 97 = some (8,[.tmp 2],c97) := by kernel_rfl
/-- (tributary/event.asked).first -/
def c98 : IC :=
 .seq (.ops [⟨some 1,none,.box 114 (tt 0)⟩,
  ⟨some 2,none,.assign (cb false)⟩])
 (.seq (.drw [(0,⟨some 3,none,.fieldAddr 114 (tt 1) 0⟩),
  (1,⟨some 4,none,.fieldAddr 29 (tt 3) 3⟩),
  (3,⟨some 5,none,.load 27 (tt 4)⟩),
  (0,⟨some 6,none,.fieldAddr 114 (tt 1) 0⟩),
  (8,⟨some 7,none,.fieldAddr 29 (tt 6) 0⟩),
  (24,⟨some 8,none,.fieldAddr 23 (tt 7) 0⟩),
  (56,⟨some 9,none,.load 3 (tt 8)⟩),
  (127,⟨some 10,none,.call ⟨(.value (ff 155)),#[(tt 5),(tt 9)],#[27, 3]⟩⟩),
  (0,⟨some 11,none,.fieldAddr 114 (tt 1) 0⟩),
  (256,⟨some 12,none,.fieldAddr 29 (tt 11) 0⟩),
  (768,⟨some 13,none,.fieldAddr 23 (tt 12) 1⟩),
  (1792,⟨some 14,none,.load 3 (tt 13)⟩),
  (4095,⟨some 15,none,.binOp .lss 3 (tt 10) (tt 14) 3⟩),
  (8191,⟨some 2,none,.assign (tt 15)⟩)])
 (.ret))
theorem i98 : fnI Tryz.prog 98 = some (16,[.tmp 2],c98) := by kernel_rfl
/-- tributary/dot.Check -/
def c110 : IC :=
 .seq (.ops [⟨some 1,none,.box 23 (tt 0)⟩,
  ⟨some 2,none,.assign (ci 0)⟩])
 (.seq (.seq (.ops [⟨some 3,none,.fieldAddr 23 (tt 1) 0⟩,
  ⟨some 4,none,.load 3 (tt 3)⟩,
  ⟨some 5,none,.binOp .lss 3 (tt 4) (ci 1) 3⟩,
  ⟨some 6,none,.move (tt 5)⟩,
  ⟨some 7,some (6,false),.fieldAddr 23 (tt 1) 0⟩,
  ⟨some 8,some (6,false),.load 3 (tt 7)⟩,
  ⟨some 9,some (6,false),.binOp .gtr 3 (tt 8) (ci 200) 3⟩,
  ⟨some 10,none,.pick (tt 6) (cb true) (tt 9)⟩,
  ⟨some 11,none,.move (tt 10)⟩,
  ⟨some 12,some (11,false),.fieldAddr 23 (tt 1) 1⟩,
  ⟨some 13,some (11,false),.load 3 (tt 12)⟩,
  ⟨some 14,some (11,false),.binOp .lss 3 (tt 13) (ci 1) 3⟩,
  ⟨some 15,none,.pick (tt 11) (cb true) (tt 14)⟩,
  ⟨some 16,none,.move (tt 15)⟩,
  ⟨some 17,some (16,false),.fieldAddr 23 (tt 1) 1⟩,
  ⟨some 18,some (16,false),.load 3 (tt 17)⟩,
  ⟨some 19,some (16,false),.binOp .gtr 3 (tt 18) (ci 2147483647) 3⟩,
  ⟨some 20,none,.pick (tt 16) (cb true) (tt 19)⟩])
 (.cond (tt 20) (.seq (.ops [⟨some 2,none,.assign (ci 2)⟩])
  (.ret))
 (.skip)))
 (.seq (.ops [⟨some 2,none,.assign (ci 0)⟩])
 (.ret)))
theorem i110 : fnI Tryz.prog 110 = some (21,[.tmp 2],c110) := by kernel_rfl
/-- tributary/tributaryref06.Check -/
def c111 : IC :=
 .seq (.ops [⟨some 1,none,.box 23 (tt 0)⟩,
  ⟨some 2,none,.assign (ci 0)⟩])
 (.seq (.seq (.ops [⟨some 3,none,.fieldAddr 23 (tt 1) 0⟩,
  ⟨some 4,none,.load 3 (tt 3)⟩,
  ⟨some 5,none,.binOp .lss 3 (tt 4) (ci 1) 3⟩,
  ⟨some 6,none,.move (tt 5)⟩,
  ⟨some 7,some (6,false),.fieldAddr 23 (tt 1) 0⟩,
  ⟨some 8,some (6,false),.load 3 (tt 7)⟩,
  ⟨some 9,some (6,false),.binOp .gtr 3 (tt 8) (ci 200) 3⟩,
  ⟨some 10,none,.pick (tt 6) (cb true) (tt 9)⟩,
  ⟨some 11,none,.move (tt 10)⟩,
  ⟨some 12,some (11,false),.fieldAddr 23 (tt 1) 1⟩,
  ⟨some 13,some (11,false),.load 3 (tt 12)⟩,
  ⟨some 14,some (11,false),.binOp .lss 3 (tt 13) (ci 1) 3⟩,
  ⟨some 15,none,.pick (tt 11) (cb true) (tt 14)⟩,
  ⟨some 16,none,.move (tt 15)⟩,
  ⟨some 17,some (16,false),.fieldAddr 23 (tt 1) 1⟩,
  ⟨some 18,some (16,false),.load 3 (tt 17)⟩,
  ⟨some 19,some (16,false),.binOp .gtr 3 (tt 18) (ci 2147483647) 3⟩,
  ⟨some 20,none,.pick (tt 16) (cb true) (tt 19)⟩])
 (.cond (tt 20) (.seq (.ops [⟨some 2,none,.assign (ci 2)⟩])
  (.ret))
 (.skip)))
 (.seq (.ops [⟨some 2,none,.assign (ci 0)⟩])
 (.ret)))
theorem i111 : fnI Tryz.prog 111 = some (21,[.tmp 2],c111) := by kernel_rfl
theorem sl24 : sliceT Tryz.prog 24 = some (5,false,1) := by kernel_rfl
theorem ze5 : zeroT Tryz.prog 5 = some (.int .u8 0) := by kernel_rfl
theorem by5 : bytesT Tryz.prog 5 = some 1 := by kernel_rfl
theorem in24 : isIntD (Tryz.prog.underlying 24) = some false := by kernel_rfl
/-- tributary/tributarykit.CopyBytes -/
def c112 : IC :=
 .seq (.ops [⟨some 2,none,.assign (.const (.slice none 0 0))⟩])
 (.seq (.ops [⟨some 3,none,.buildSlice 24 0 #[]⟩,
  ⟨some 4,none,.move (tt 0)⟩,
  ⟨some 5,none,.call ⟨(.builtin .append),#[(tt 3),(tt 4)],#[24, 24]⟩⟩,
  ⟨some 2,none,.assign (tt 5)⟩])
 (.ret))
theorem i112 : fnI Tryz.prog 112 = some (6,[.tmp 2],c112) := by kernel_rfl
theorem ze179 : zeroT Tryz.prog 179 = some (.agg ⟨[.int .i64 0,.int .i64 0,.int .i64 0]⟩) := by kernel_rfl
theorem st179 : structT Tryz.prog 179 = none := by kernel_rfl
theorem ar179 : arrT Tryz.prog 179 = some (3,false,1) := by kernel_rfl
theorem sz179 : sizeT Tryz.prog 179 = some 3 := by kernel_rfl
theorem is179 : isStrT Tryz.prog 179 = false := by kernel_rfl
theorem sl179 : sliceT Tryz.prog 179 = none := by kernel_rfl
/-- tributary/effect.order -/
def c126 : IC :=
 .seq (.ops [⟨some 2,none,.box 26 (tt 0)⟩,
  ⟨some 3,none,.box 26 (tt 1)⟩,
  ⟨some 4,none,.assign (ci 0)⟩])
 (.seq (.drw [(0,⟨some 6,none,.fieldAddr 26 (tt 2) 0⟩),
  (1,⟨some 7,none,.load 3 (tt 6)⟩),
  (0,⟨some 8,none,.fieldAddr 26 (tt 3) 0⟩),
  (4,⟨some 9,none,.load 3 (tt 8)⟩),
  (15,⟨some 10,none,.call ⟨(.value (ff 137)),#[(tt 7),(tt 9)],#[3, 3]⟩⟩),
  (0,⟨some 11,none,.fieldAddr 26 (tt 2) 1⟩),
  (32,⟨some 12,none,.load 3 (tt 11)⟩),
  (0,⟨some 13,none,.fieldAddr 26 (tt 3) 1⟩),
  (128,⟨some 14,none,.load 3 (tt 13)⟩),
  (511,⟨some 15,none,.call ⟨(.value (ff 137)),#[(tt 12),(tt 14)],#[3, 3]⟩⟩),
  (0,⟨some 16,none,.fieldAddr 26 (tt 2) 2⟩),
  (1024,⟨some 17,none,.load 24 (tt 16)⟩),
  (0,⟨some 18,none,.fieldAddr 26 (tt 3) 2⟩),
  (4096,⟨some 19,none,.load 24 (tt 18)⟩),
  (16383,⟨some 20,none,.call ⟨(.value (ff 164)),#[(tt 17),(tt 19)],#[24, 24]⟩⟩),
  (32767,⟨some 21,none,.build 179 #[(0,(tt 10)),(1,(tt 15)),(2,(tt 20))]⟩),
  (0,⟨some 5,none,.alloc 179⟩),
  (131071,⟨none,none,.store 179 (tt 5) (tt 21)⟩)])
 (.seq (.ops [⟨some 22,none,.slice 179 (tt 5) none none none⟩,
  ⟨some 23,none,.call ⟨(.value (ff 136)),#[(tt 22)],#[134]⟩⟩,
  ⟨some 4,none,.assign (tt 23)⟩])
 (.ret)))
theorem i126 : fnI Tryz.prog 126 = some (24,[.tmp 4],c126) := by kernel_rfl
theorem lk180 : lenK Tryz.prog 180 = 2 := by kernel_rfl
theorem ar180 : arrT Tryz.prog 180 = none := by kernel_rfl
theorem sl180 : sliceT Tryz.prog 180 = some (9,false,1) := by kernel_rfl
/-- tributary/tributaryref03.Check -/
def c127 : IC :=
 .seq (.ops [⟨some 2,none,.assign (ci 0)⟩])
 (.seq (.ops [⟨some 5,none,.move (tt 0)⟩,
  ⟨some 6,none,.call ⟨(.value (ff 165)),#[(tt 5)],#[9]⟩⟩,
  ⟨some 3,none,.assign (tt 6)⟩])
 (.seq (.seq (.ops [⟨some 7,none,.move (tt 3)⟩,
  ⟨some 8,none,.call ⟨(.builtin .len),#[(tt 7)],#[180]⟩⟩,
  ⟨some 9,none,.binOp .gtr 3 (tt 8) (ci 6) 3⟩])
 (.cond (tt 9) (.seq (.ops [⟨some 2,none,.assign (ci 2)⟩])
  (.ret))
 (.skip)))
 (.seq (.seq (.ops [⟨some 4,none,.assign (ci 0)⟩])
 (.block 0 (.loop (.seq (.seq (.ops [⟨some 10,none,.move (tt 4)⟩,
    ⟨some 11,none,.move (tt 3)⟩,
    ⟨some 12,none,.call ⟨(.builtin .len),#[(tt 11)],#[180]⟩⟩,
    ⟨some 13,none,.binOp .lss 3 (tt 10) (tt 12) 3⟩])
   (.cond (tt 13) (.skip)
   (.exit 0)))
   (.seq (.block 1 (.seq (.ops [⟨some 16,none,.move (tt 3)⟩,
     ⟨some 17,none,.move (tt 4)⟩,
     ⟨some 18,none,.indexAddr 180 (tt 16) (tt 17)⟩,
     ⟨some 19,none,.load 9 (tt 18)⟩,
     ⟨some 20,none,.call ⟨(.value (ff 166)),#[(tt 19)],#[9]⟩⟩,
     ⟨some 21,none,.unOp .not 4 (tt 20)⟩])
    (.cond (tt 21) (.seq (.ops [⟨some 2,none,.assign (ci 2)⟩])
     (.ret))
    (.skip))))
   (.ops [⟨some 14,none,.move (tt 4)⟩,
    ⟨some 15,none,.binOp .add 3 (tt 14) (ci 1) 3⟩,
    ⟨some 4,none,.assign (tt 15)⟩]))))))
 (.seq (.ops [⟨some 2,none,.assign (ci 0)⟩])
 (.ret)))))
theorem i127 : fnI Tryz.prog 127 = some (22,[.tmp 2],c127) := by kernel_rfl
/-- tributary/tributaryref04.Check -/
def c128 : IC :=
 .seq (.ops [⟨some 1,none,.box 26 (tt 0)⟩,
  ⟨some 2,none,.assign (ci 0)⟩])
 (.seq (.ops [⟨some 3,none,.assign (cb false)⟩])
 (.seq (.seq (.ops [⟨some 4,none,.fieldAddr 26 (tt 1) 0⟩,
  ⟨some 5,none,.load 3 (tt 4)⟩])
 (.block 0 (.seq (.ops [⟨some 7,none,.binOp .eql 3 (tt 5) (ci 1) 3⟩,
   ⟨some 6,none,.assign (tt 7)⟩])
  (.cond (tt 6) (.ops [⟨some 8,none,.fieldAddr 26 (tt 1) 1⟩,
    ⟨some 9,none,.load 3 (tt 8)⟩,
    ⟨some 10,none,.binOp .geq 3 (tt 9) (ci 0) 3⟩,
    ⟨some 11,none,.move (tt 10)⟩,
    ⟨some 12,some (11,true),.fieldAddr 26 (tt 1) 1⟩,
    ⟨some 13,some (11,true),.load 3 (tt 12)⟩,
    ⟨some 14,some (11,true),.binOp .leq 3 (tt 13) (ci 511) 3⟩,
    ⟨some 15,none,.pick (tt 11) (tt 14) (cb false)⟩,
    ⟨some 16,none,.move (tt 15)⟩,
    ⟨some 17,some (16,true),.fieldAddr 26 (tt 1) 2⟩,
    ⟨some 18,some (16,true),.load 24 (tt 17)⟩,
    ⟨some 19,some (16,true),.call ⟨(.builtin .len),#[(tt 18)],#[24]⟩⟩,
    ⟨some 20,some (16,true),.binOp .leq 3 (tt 19) (ci 1000) 3⟩,
    ⟨some 21,none,.pick (tt 16) (tt 20) (cb false)⟩,
    ⟨some 3,none,.assign (tt 21)⟩])
  (.seq (.ops [⟨some 23,none,.binOp .eql 3 (tt 5) (ci 2) 3⟩,
    ⟨some 22,none,.assign (tt 23)⟩])
   (.cond (tt 22) (.ops [⟨some 24,none,.fieldAddr 26 (tt 1) 1⟩,
     ⟨some 25,none,.load 3 (tt 24)⟩,
     ⟨some 26,none,.binOp .geq 3 (tt 25) (ci 0) 3⟩,
     ⟨some 27,none,.move (tt 26)⟩,
     ⟨some 28,some (27,true),.fieldAddr 26 (tt 1) 1⟩,
     ⟨some 29,some (27,true),.load 3 (tt 28)⟩,
     ⟨some 30,some (27,true),.binOp .leq 3 (tt 29) (ci 511) 3⟩,
     ⟨some 31,none,.pick (tt 27) (tt 30) (cb false)⟩,
     ⟨some 32,none,.move (tt 31)⟩,
     ⟨some 33,some (32,true),.fieldAddr 26 (tt 1) 2⟩,
     ⟨some 34,some (32,true),.load 24 (tt 33)⟩,
     ⟨some 35,some (32,true),.call ⟨(.builtin .len),#[(tt 34)],#[24]⟩⟩,
     ⟨some 36,some (32,true),.binOp .eql 3 (tt 35) (ci 0) 3⟩,
     ⟨some 37,none,.pick (tt 32) (tt 36) (cb false)⟩,
     ⟨some 3,none,.assign (tt 37)⟩])
   (.seq (.ops [⟨some 39,none,.binOp .eql 3 (tt 5) (ci 3) 3⟩,
     ⟨some 38,none,.assign (tt 39)⟩])
    (.cond (tt 38) (.ops [⟨some 40,none,.fieldAddr 26 (tt 1) 1⟩,
      ⟨some 41,none,.load 3 (tt 40)⟩,
      ⟨some 42,none,.binOp .eql 3 (tt 41) (ci 0) 3⟩,
      ⟨some 43,none,.move (tt 42)⟩,
      ⟨some 44,some (43,true),.fieldAddr 26 (tt 1) 2⟩,
      ⟨some 45,some (43,true),.load 24 (tt 44)⟩,
      ⟨some 46,some (43,true),.call ⟨(.builtin .len),#[(tt 45)],#[24]⟩⟩,
      ⟨some 47,some (43,true),.binOp .eql 3 (tt 46) (ci 0) 3⟩,
      ⟨some 48,none,.pick (tt 43) (tt 47) (cb false)⟩,
      ⟨some 3,none,.assign (tt 48)⟩])
    (.skip)))))))))
 (.seq (.seq (.ops [⟨some 49,none,.move (tt 3)⟩,
  ⟨some 50,none,.unOp .not 4 (tt 49)⟩])
 (.cond (tt 50) (.seq (.ops [⟨some 2,none,.assign (ci 2)⟩])
  (.ret))
 (.skip)))
 (.seq (.ops [⟨some 2,none,.assign (ci 0)⟩])
 (.ret)))))
theorem i128 : fnI Tryz.prog 128 = some (51,[.tmp 2],c128) := by kernel_rfl
theorem sz112 : sizeT Tryz.prog 112 = some 3 := by kernel_rfl
theorem fd112_0 : fieldT Tryz.prog 112 0 = some (0,false,1) := by kernel_rfl
theorem fd112_1 : fieldT Tryz.prog 112 1 = some (1,false,1) := by kernel_rfl
theorem fd112_2 : fieldT Tryz.prog 112 2 = some (2,false,1) := by kernel_rfl
/-- tributary/tributaryref07.Check -/
def c129 : IC :=
 .seq (.ops [⟨some 2,none,.assign (ci 0)⟩])
 (.seq (.seq (.ops [⟨some 5,none,.move (tt 0)⟩,
  ⟨some 6,none,.call ⟨(.builtin .len),#[(tt 5)],#[27]⟩⟩,
  ⟨some 7,none,.binOp .gtr 3 (tt 6) (ci 4000) 3⟩])
 (.cond (tt 7) (.seq (.ops [⟨some 2,none,.assign (ci 2)⟩])
  (.ret))
 (.skip)))
 (.seq (.seq (.ops [⟨some 3,none,.assign (ci 0)⟩])
 (.block 0 (.loop (.seq (.seq (.ops [⟨some 8,none,.move (tt 3)⟩,
    ⟨some 9,none,.move (tt 0)⟩,
    ⟨some 10,none,.call ⟨(.builtin .len),#[(tt 9)],#[27]⟩⟩,
    ⟨some 11,none,.binOp .lss 3 (tt 8) (tt 10) 3⟩])
   (.cond (tt 11) (.skip)
   (.exit 0)))
   (.seq (.block 1 (.seq (.ops [⟨some 14,none,.move (tt 0)⟩,
     ⟨some 15,none,.move (tt 3)⟩,
     ⟨some 16,none,.indexAddr 27 (tt 14) (tt 15)⟩,
     ⟨some 17,none,.load 112 (tt 16)⟩,
     ⟨some 4,none,.alloc 112⟩,
     ⟨none,none,.store 112 (tt 4) (tt 17)⟩])
    (.seq (.seq (.ops [⟨some 18,none,.fieldAddr 112 (tt 4) 0⟩,
     ⟨some 19,none,.load 3 (tt 18)⟩,
     ⟨some 20,none,.binOp .lss 3 (tt 19) (ci 1) 3⟩,
     ⟨some 21,none,.move (tt 20)⟩,
     ⟨some 22,some (21,false),.fieldAddr 112 (tt 4) 0⟩,
     ⟨some 23,some (21,false),.load 3 (tt 22)⟩,
     ⟨some 24,some (21,false),.binOp .gtr 3 (tt 23) (ci 200) 3⟩,
     ⟨some 25,none,.pick (tt 21) (cb true) (tt 24)⟩,
     ⟨some 26,none,.move (tt 25)⟩,
     ⟨some 27,some (26,false),.fieldAddr 112 (tt 4) 1⟩,
     ⟨some 28,some (26,false),.load 3 (tt 27)⟩,
     ⟨some 29,some (26,false),.binOp .lss 3 (tt 28) (ci 1) 3⟩,
     ⟨some 30,none,.pick (tt 26) (cb true) (tt 29)⟩,
     ⟨some 31,none,.move (tt 30)⟩,
     ⟨some 32,some (31,false),.fieldAddr 112 (tt 4) 1⟩,
     ⟨some 33,some (31,false),.load 3 (tt 32)⟩,
     ⟨some 34,some (31,false),.fieldAddr 112 (tt 4) 2⟩,
     ⟨some 35,some (31,false),.load 3 (tt 34)⟩,
     ⟨some 36,some (31,false),.binOp .gtr 3 (tt 33) (tt 35) 3⟩,
     ⟨some 37,none,.pick (tt 31) (cb true) (tt 36)⟩,
     ⟨some 38,none,.move (tt 37)⟩,
     ⟨some 39,some (38,false),.fieldAddr 112 (tt 4) 2⟩,
     ⟨some 40,some (38,false),.load 3 (tt 39)⟩,
     ⟨some 41,some (38,false),.binOp .gtr 3 (tt 40) (ci 2147483647) 3⟩,
     ⟨some 42,none,.pick (tt 38) (cb true) (tt 41)⟩])
    (.cond (tt 42) (.seq (.ops [⟨some 2,none,.assign (ci 2)⟩])
     (.ret))
    (.skip)))
    (.seq (.drw [(0,⟨some 43,none,.move (tt 3)⟩),
     (1,⟨some 44,none,.binOp .gtr 3 (tt 43) (ci 0) 3⟩),
     (3,⟨some 45,none,.move (tt 44)⟩),
     (7,⟨some 46,some (45,true),.fieldAddr 112 (tt 4) 0⟩),
     (15,⟨some 47,some (45,true),.load 3 (tt 46)⟩),
     (7,⟨some 48,some (45,true),.move (tt 0)⟩),
     (7,⟨some 49,some (45,true),.move (tt 3)⟩),
     (71,⟨some 50,some (45,true),.binOp .sub 3 (tt 49) (ci 1) 3⟩),
     (231,⟨some 51,some (45,true),.indexAddr 27 (tt 48) (tt 50)⟩),
     (487,⟨some 52,some (45,true),.fieldAddr 112 (tt 51) 0⟩),
     (999,⟨some 53,some (45,true),.load 3 (tt 52)⟩),
     (2047,⟨some 54,some (45,true),.binOp .lss 3 (tt 47) (tt 53) 3⟩),
     (4095,⟨some 55,some (45,true),.move (tt 54)⟩),
     (8191,⟨some 56,some (55,false),.fieldAddr 112 (tt 4) 0⟩),
     (16383,⟨some 57,some (55,false),.load 3 (tt 56)⟩),
     (8191,⟨some 58,some (55,false),.move (tt 0)⟩),
     (8191,⟨some 59,some (55,false),.move (tt 3)⟩),
     (73727,⟨some 60,some (55,false),.binOp .sub 3 (tt 59) (ci 1) 3⟩),
     (237567,⟨some 61,some (55,false),.indexAddr 27 (tt 58) (tt 60)⟩),
     (499711,⟨some 62,some (55,false),.fieldAddr 112 (tt 61) 0⟩),
     (1023999,⟨some 63,some (55,false),.load 3 (tt 62)⟩),
     (2097151,⟨some 64,some (55,false),.binOp .eql 3 (tt 57) (tt 63) 3⟩),
     (4194303,⟨some 65,some (55,false),.move (tt 64)⟩),
     (8388607,⟨some 66,some (65,true),.fieldAddr 112 (tt 4) 1⟩),
     (16777215,⟨some 67,some (65,true),.load 3 (tt 66)⟩),
     (8388607,⟨some 68,some (65,true),.move (tt 0)⟩),
     (8388607,⟨some 69,some (65,true),.move (tt 3)⟩),
     (75497471,⟨some 70,some (65,true),.binOp .sub 3 (tt 69) (ci 1) 3⟩),
     (243269631,⟨some 71,some (65,true),.indexAddr 27 (tt 68) (tt 70)⟩),
     (511705087,⟨some 72,some (65,true),.fieldAddr 112 (tt 71) 2⟩),
     (1048575999,⟨some 73,some (65,true),.load 3 (tt 72)⟩),
     (2122317823,⟨some 74,some (65,true),.binOp .add 3 (tt 73) (ci 1) 3⟩),
     (4294967295,⟨some 75,some (65,true),.binOp .leq 3 (tt 67) (tt 74) 3⟩),
     (8589934591,⟨some 76,some (55,false),.pick (tt 65) (tt 75) (cb false)⟩),
     (17179869183,⟨some 77,some (45,true),.pick (tt 55) (cb true) (tt 76)⟩),
     (34359738367,⟨some 78,none,.pick (tt 45) (tt 77) (cb false)⟩)])
    (.cond (tt 78) (.seq (.ops [⟨some 2,none,.assign (ci 2)⟩])
     (.ret))
    (.skip))))))
   (.ops [⟨some 12,none,.move (tt 3)⟩,
    ⟨some 13,none,.binOp .add 3 (tt 12) (ci 1) 3⟩,
    ⟨some 3,none,.assign (tt 13)⟩]))))))
 (.seq (.ops [⟨some 2,none,.assign (ci 0)⟩])
 (.ret))))
theorem i129 : fnI Tryz.prog 129 = some (79,[.tmp 2],c129) := by kernel_rfl
/-- tributary/tributaryref07.Last -/
def c130 : IC :=
 .seq (.ops [⟨some 4,none,.assign (ci 0)⟩])
 (.seq (.seq (.ops [⟨some 7,none,.move (tt 0)⟩,
  ⟨some 8,none,.call ⟨(.value (ff 129)),#[(tt 7)],#[27]⟩⟩,
  ⟨some 9,none,.binOp .neq 36 (tt 8) (ci 0) 36⟩])
 (.cond (tt 9) (.seq (.ops [⟨some 4,none,.assign (ci 0)⟩])
  (.ret))
 (.skip)))
 (.seq (.ops [⟨some 5,none,.assign (ci 0)⟩])
 (.seq (.seq (.ops [⟨some 6,none,.assign (ci 0)⟩])
 (.block 0 (.loop (.seq (.seq (.ops [⟨some 10,none,.move (tt 6)⟩,
    ⟨some 11,none,.move (tt 0)⟩,
    ⟨some 12,none,.call ⟨(.builtin .len),#[(tt 11)],#[27]⟩⟩,
    ⟨some 13,none,.binOp .lss 3 (tt 10) (tt 12) 3⟩])
   (.cond (tt 13) (.skip)
   (.exit 0)))
   (.seq (.block 1 (.seq (.ops [⟨some 16,none,.move (tt 0)⟩,
     ⟨some 17,none,.move (tt 6)⟩,
     ⟨some 18,none,.indexAddr 27 (tt 16) (tt 17)⟩,
     ⟨some 19,none,.fieldAddr 112 (tt 18) 0⟩,
     ⟨some 20,none,.load 3 (tt 19)⟩,
     ⟨some 21,none,.move (tt 1)⟩,
     ⟨some 22,none,.binOp .eql 3 (tt 20) (tt 21) 3⟩])
    (.cond (tt 22) (.ops [⟨some 23,none,.move (tt 5)⟩,
      ⟨some 24,none,.move (tt 0)⟩,
      ⟨some 25,none,.move (tt 6)⟩,
      ⟨some 26,none,.indexAddr 27 (tt 24) (tt 25)⟩,
      ⟨some 27,none,.fieldAddr 112 (tt 26) 2⟩,
      ⟨some 28,none,.load 3 (tt 27)⟩,
      ⟨some 29,none,.call ⟨(.builtin .max),#[(tt 23),(tt 28)],#[3, 3]⟩⟩,
      ⟨some 5,none,.assign (tt 29)⟩])
    (.skip))))
   (.ops [⟨some 14,none,.move (tt 6)⟩,
    ⟨some 15,none,.binOp .add 3 (tt 14) (ci 1) 3⟩,
    ⟨some 6,none,.assign (tt 15)⟩]))))))
 (.seq (.ops [⟨some 30,none,.move (tt 5)⟩,
  ⟨some 4,none,.assign (tt 30)⟩])
 (.ret)))))
theorem i130 : fnI Tryz.prog 130 = some (31,[.tmp 4],c130) := by kernel_rfl
/-- tributary/tributaryref07.Has -/
def c131 : IC :=
 .seq (.ops [⟨some 3,none,.box 23 (tt 1)⟩,
  ⟨some 4,none,.assign (cb false)⟩])
 (.seq (.seq (.ops [⟨some 6,none,.move (tt 0)⟩,
  ⟨some 7,none,.call ⟨(.value (ff 129)),#[(tt 6)],#[27]⟩⟩,
  ⟨some 8,none,.binOp .neq 36 (tt 7) (ci 0) 36⟩])
 (.cond (tt 8) (.seq (.ops [⟨some 4,none,.assign (cb false)⟩])
  (.ret))
 (.skip)))
 (.seq (.seq (.ops [⟨some 5,none,.assign (ci 0)⟩])
 (.block 0 (.loop (.seq (.seq (.ops [⟨some 9,none,.move (tt 5)⟩,
    ⟨some 10,none,.move (tt 0)⟩,
    ⟨some 11,none,.call ⟨(.builtin .len),#[(tt 10)],#[27]⟩⟩,
    ⟨some 12,none,.binOp .lss 3 (tt 9) (tt 11) 3⟩])
   (.cond (tt 12) (.skip)
   (.exit 0)))
   (.seq (.block 1 (.seq (.drw [(0,⟨some 15,none,.move (tt 0)⟩),
     (0,⟨some 16,none,.move (tt 5)⟩),
     (3,⟨some 17,none,.indexAddr 27 (tt 15) (tt 16)⟩),
     (7,⟨some 18,none,.fieldAddr 112 (tt 17) 0⟩),
     (15,⟨some 19,none,.load 3 (tt 18)⟩),
     (0,⟨some 20,none,.fieldAddr 23 (tt 3) 0⟩),
     (32,⟨some 21,none,.load 3 (tt 20)⟩),
     (127,⟨some 22,none,.binOp .eql 3 (tt 19) (tt 21) 3⟩),
     (255,⟨some 23,none,.move (tt 22)⟩),
     (511,⟨some 24,some (23,true),.move (tt 0)⟩),
     (511,⟨some 25,some (23,true),.move (tt 5)⟩),
     (2047,⟨some 26,some (23,true),.indexAddr 27 (tt 24) (tt 25)⟩),
     (4095,⟨some 27,some (23,true),.fieldAddr 112 (tt 26) 1⟩),
     (8191,⟨some 28,some (23,true),.load 3 (tt 27)⟩),
     (511,⟨some 29,some (23,true),.fieldAddr 23 (tt 3) 1⟩),
     (16895,⟨some 30,some (23,true),.load 3 (tt 29)⟩),
     (65535,⟨some 31,some (23,true),.binOp .leq 3 (tt 28) (tt 30) 3⟩),
     (131071,⟨some 32,none,.pick (tt 23) (tt 31) (cb false)⟩),
     (262143,⟨some 33,none,.move (tt 32)⟩),
     (524287,⟨some 34,some (33,true),.fieldAddr 23 (tt 3) 1⟩),
     (1048575,⟨some 35,some (33,true),.load 3 (tt 34)⟩),
     (524287,⟨some 36,some (33,true),.move (tt 0)⟩),
     (524287,⟨some 37,some (33,true),.move (tt 5)⟩),
     (6815743,⟨some 38,some (33,true),.indexAddr 27 (tt 36) (tt 37)⟩),
     (15204351,⟨some 39,some (33,true),.fieldAddr 112 (tt 38) 2⟩),
     (31981567,⟨some 40,some (33,true),.load 3 (tt 39)⟩),
     (67108863,⟨some 41,some (33,true),.binOp .leq 3 (tt 35) (tt 40) 3⟩),
     (134217727,⟨some 42,none,.pick (tt 33) (tt 41) (cb false)⟩)])
    (.cond (tt 42) (.seq (.ops [⟨some 4,none,.assign (cb true)⟩])
     (.ret))
    (.skip))))
   (.ops [⟨some 13,none,.move (tt 5)⟩,
    ⟨some 14,none,.binOp .add 3 (tt 13) (ci 1) 3⟩,
    ⟨some 5,none,.assign (tt 14)⟩]))))))
 (.seq (.ops [⟨some 4,none,.assign (cb false)⟩])
 (.ret))))
theorem i131 : fnI Tryz.prog 131 = some (43,[.tmp 4],c131) := by kernel_rfl
theorem is9 : isStrT Tryz.prog 9 = true := by kernel_rfl
theorem ar9 : arrT Tryz.prog 9 = none := by kernel_rfl
theorem sl9 : sliceT Tryz.prog 9 = none := by kernel_rfl
theorem nt5 : nilT Tryz.prog 5 = 0 := by kernel_rfl
/-- tributary/tributaryref03.Under -/
def c132 : IC :=
 .seq (.ops [⟨some 4,none,.assign (cb false)⟩])
 (.seq (.seq (.ops [⟨some 5,none,.move (tt 0)⟩,
  ⟨some 6,none,.call ⟨(.value (ff 127)),#[(tt 5)],#[9]⟩⟩,
  ⟨some 7,none,.binOp .neq 36 (tt 6) (ci 0) 36⟩,
  ⟨some 8,none,.move (tt 7)⟩,
  ⟨some 9,some (8,false),.move (tt 1)⟩,
  ⟨some 10,some (8,false),.call ⟨(.value (ff 127)),#[(tt 9)],#[9]⟩⟩,
  ⟨some 11,some (8,false),.binOp .neq 36 (tt 10) (ci 0) 36⟩,
  ⟨some 12,none,.pick (tt 8) (cb true) (tt 11)⟩])
 (.cond (tt 12) (.seq (.ops [⟨some 4,none,.assign (cb false)⟩])
  (.ret))
 (.skip)))
 (.seq (.ops [⟨some 13,none,.move (tt 1)⟩,
  ⟨some 14,none,.call ⟨(.builtin .len),#[(tt 13)],#[9]⟩⟩,
  ⟨some 15,none,.move (tt 0)⟩,
  ⟨some 16,none,.call ⟨(.builtin .len),#[(tt 15)],#[9]⟩⟩,
  ⟨some 17,none,.binOp .gtr 3 (tt 14) (tt 16) 3⟩,
  ⟨some 18,none,.move (tt 17)⟩,
  ⟨some 19,some (18,true),.move (tt 1)⟩,
  ⟨some 20,some (18,true),.move (tt 0)⟩,
  ⟨some 21,some (18,true),.call ⟨(.builtin .len),#[(tt 20)],#[9]⟩⟩,
  ⟨some 22,some (18,true),.slice 9 (tt 19) none (some (tt 21)) none⟩,
  ⟨some 23,some (18,true),.move (tt 0)⟩,
  ⟨some 24,some (18,true),.binOp .eql 9 (tt 22) (tt 23) 9⟩,
  ⟨some 25,none,.pick (tt 18) (tt 24) (cb false)⟩,
  ⟨some 26,none,.move (tt 25)⟩,
  ⟨some 27,some (26,true),.move (tt 1)⟩,
  ⟨some 28,some (26,true),.move (tt 0)⟩,
  ⟨some 29,some (26,true),.call ⟨(.builtin .len),#[(tt 28)],#[9]⟩⟩,
  ⟨some 30,some (26,true),.index 9 (tt 27) (tt 29)⟩,
  ⟨some 31,some (26,true),.binOp .eql 5 (tt 30) (.const (.int .u8 47)) 5⟩,
  ⟨some 32,none,.pick (tt 26) (tt 31) (cb false)⟩,
  ⟨some 4,none,.assign (tt 32)⟩])
 (.ret)))
theorem i132 : fnI Tryz.prog 132 = some (33,[.tmp 4],c132) := by kernel_rfl
theorem lk134 : lenK Tryz.prog 134 = 2 := by kernel_rfl
theorem ar134 : arrT Tryz.prog 134 = none := by kernel_rfl
/-- cmp.Or[int] -/
def c136 : IC :=
 .seq (.ops [⟨some 2,none,.assign (ci 0)⟩])
 (.seq (.ops [⟨some 3,none,.assign (ci 0)⟩])
 (.seq (.seq (.ops [⟨some 6,none,.move (tt 0)⟩,
  ⟨some 7,none,.call ⟨(.builtin .len),#[(tt 6)],#[134]⟩⟩,
  ⟨some 8,none,.move (ci 0)⟩])
 (.block 0 (.loop (.seq (.ops [⟨some 9,none,.binOp .lss 3 (tt 8) (tt 7) 3⟩])
   (.seq (.cond (tt 9) (.skip)
   (.exit 0))
   (.seq (.block 1 (.seq (.ops [⟨some 10,none,.indexAddr 134 (tt 6) (tt 8)⟩,
     ⟨some 11,none,.load 3 (tt 10)⟩,
     ⟨some 5,none,.assign (tt 11)⟩])
    (.seq (.ops [⟨some 12,none,.move (tt 5)⟩,
     ⟨some 13,none,.move (tt 3)⟩,
     ⟨some 14,none,.binOp .neq 3 (tt 12) (tt 13) 3⟩])
    (.cond (tt 14) (.seq (.ops [⟨some 15,none,.move (tt 5)⟩,
      ⟨some 2,none,.assign (tt 15)⟩])
     (.ret))
    (.skip)))))
   (.ops [⟨some 16,none,.binOp .add 3 (tt 8) (ci 1) 3⟩,
    ⟨some 8,none,.move (tt 16)⟩])))))))
 (.seq (.ops [⟨some 17,none,.move (tt 3)⟩,
  ⟨some 2,none,.assign (tt 17)⟩])
 (.ret))))
theorem i136 : fnI Tryz.prog 136 = some (18,[.tmp 2],c136) := by kernel_rfl
/-- cmp.Compare[int] -/
def c137 : IC :=
 .seq (.ops [⟨some 4,none,.assign (ci 0)⟩])
 (.seq (.ops [⟨some 7,none,.move (tt 0)⟩,
  ⟨some 8,none,.call ⟨(.value (ff 177)),#[(tt 7)],#[3]⟩⟩,
  ⟨some 5,none,.assign (tt 8)⟩])
 (.seq (.ops [⟨some 9,none,.move (tt 1)⟩,
  ⟨some 10,none,.call ⟨(.value (ff 177)),#[(tt 9)],#[3]⟩⟩,
  ⟨some 6,none,.assign (tt 10)⟩])
 (.seq (.seq (.ops [⟨some 11,none,.move (tt 5)⟩])
 (.cond (tt 11) (.seq (.seq (.ops [⟨some 12,none,.move (tt 6)⟩])
  (.cond (tt 12) (.seq (.ops [⟨some 4,none,.assign (ci 0)⟩])
   (.ret))
  (.skip)))
  (.seq (.ops [⟨some 4,none,.assign (ci (-1))⟩])
  (.ret)))
 (.skip)))
 (.seq (.seq (.ops [⟨some 13,none,.move (tt 6)⟩])
 (.cond (tt 13) (.seq (.ops [⟨some 4,none,.assign (ci 1)⟩])
  (.ret))
 (.skip)))
 (.seq (.seq (.ops [⟨some 14,none,.move (tt 0)⟩,
  ⟨some 15,none,.move (tt 1)⟩,
  ⟨some 16,none,.binOp .lss 3 (tt 14) (tt 15) 3⟩])
 (.cond (tt 16) (.seq (.ops [⟨some 4,none,.assign (ci (-1))⟩])
  (.ret))
 (.skip)))
 (.seq (.seq (.ops [⟨some 17,none,.move (tt 0)⟩,
  ⟨some 18,none,.move (tt 1)⟩,
  ⟨some 19,none,.binOp .gtr 3 (tt 17) (tt 18) 3⟩])
 (.cond (tt 19) (.seq (.ops [⟨some 4,none,.assign (ci 1)⟩])
  (.ret))
 (.skip)))
 (.seq (.ops [⟨some 4,none,.assign (ci 0)⟩])
 (.ret))))))))
theorem i137 : fnI Tryz.prog 137 = some (20,[.tmp 4],c137) := by kernel_rfl
/-- strings.CutPrefix -/
def c141 : IC :=
 .seq (.ops [⟨some 4,none,.assign (.const (.string ⟨#[]⟩))⟩,
  ⟨some 5,none,.assign (cb false)⟩])
 (.seq (.ops [⟨some 6,none,.move (tt 0)⟩,
  ⟨some 7,none,.move (tt 1)⟩,
  ⟨some 8,none,.call ⟨(.value (ff 179)),#[(tt 6),(tt 7)],#[9, 9]⟩⟩,
  ⟨some 9,none,.extract (tt 8) 0⟩,
  ⟨some 10,none,.extract (tt 8) 1⟩,
  ⟨some 4,none,.assign (tt 9)⟩,
  ⟨some 5,none,.assign (tt 10)⟩])
 (.ret))
theorem i141 : fnI Tryz.prog 141 = some (11,[.tmp 4,.tmp 5],c141) := by kernel_rfl
/-- strings.HasPrefix -/
def c142 : IC :=
 .seq (.ops [⟨some 4,none,.assign (cb false)⟩])
 (.seq (.ops [⟨some 5,none,.move (tt 0)⟩,
  ⟨some 6,none,.move (tt 1)⟩,
  ⟨some 7,none,.call ⟨(.value (ff 180)),#[(tt 5),(tt 6)],#[9, 9]⟩⟩,
  ⟨some 4,none,.assign (tt 7)⟩])
 (.ret))
theorem i142 : fnI Tryz.prog 142 = some (8,[.tmp 4],c142) := by kernel_rfl
/-- tributary/past.Check -/
def c143 : IC :=
 .seq (.ops [⟨some 2,none,.assign (ci 0)⟩])
 (.seq (.seq (.ops [⟨some 5,none,.move (tt 0)⟩,
  ⟨some 6,none,.call ⟨(.builtin .len),#[(tt 5)],#[27]⟩⟩,
  ⟨some 7,none,.binOp .gtr 3 (tt 6) (ci 4000) 3⟩])
 (.cond (tt 7) (.seq (.ops [⟨some 2,none,.assign (ci 2)⟩])
  (.ret))
 (.skip)))
 (.seq (.seq (.ops [⟨some 8,none,.move (tt 0)⟩,
  ⟨some 9,none,.call ⟨(.builtin .len),#[(tt 8)],#[27]⟩⟩,
  ⟨some 10,none,.move (ci 0)⟩])
 (.block 0 (.loop (.seq (.ops [⟨some 11,none,.binOp .lss 3 (tt 10) (tt 9) 3⟩])
   (.seq (.cond (tt 11) (.skip)
   (.exit 0))
   (.seq (.block 1 (.seq (.ops [⟨some 12,none,.move (tt 10)⟩,
     ⟨some 13,none,.indexAddr 27 (tt 8) (tt 10)⟩,
     ⟨some 14,none,.load 112 (tt 13)⟩,
     ⟨some 4,none,.alloc 112⟩,
     ⟨some 3,none,.assign (tt 12)⟩,
     ⟨none,none,.store 112 (tt 4) (tt 14)⟩])
    (.block 2 (.seq (.ops [⟨some 16,none,.fieldAddr 112 (tt 4) 0⟩,
      ⟨some 17,none,.load 3 (tt 16)⟩,
      ⟨some 18,none,.binOp .lss 3 (tt 17) (ci 1) 3⟩,
      ⟨some 19,none,.move (tt 18)⟩,
      ⟨some 20,some (19,false),.fieldAddr 112 (tt 4) 0⟩,
      ⟨some 21,some (19,false),.load 3 (tt 20)⟩,
      ⟨some 22,some (19,false),.binOp .gtr 3 (tt 21) (ci 200) 3⟩,
      ⟨some 23,none,.pick (tt 19) (cb true) (tt 22)⟩,
      ⟨some 24,none,.move (tt 23)⟩,
      ⟨some 25,some (24,false),.fieldAddr 112 (tt 4) 1⟩,
      ⟨some 26,some (24,false),.load 3 (tt 25)⟩,
      ⟨some 27,some (24,false),.binOp .lss 3 (tt 26) (ci 1) 3⟩,
      ⟨some 28,none,.pick (tt 24) (cb true) (tt 27)⟩,
      ⟨some 29,none,.move (tt 28)⟩,
      ⟨some 30,some (29,false),.fieldAddr 112 (tt 4) 1⟩,
      ⟨some 31,some (29,false),.load 3 (tt 30)⟩,
      ⟨some 32,some (29,false),.fieldAddr 112 (tt 4) 2⟩,
      ⟨some 33,some (29,false),.load 3 (tt 32)⟩,
      ⟨some 34,some (29,false),.binOp .gtr 3 (tt 31) (tt 33) 3⟩,
      ⟨some 35,none,.pick (tt 29) (cb true) (tt 34)⟩,
      ⟨some 36,none,.move (tt 35)⟩,
      ⟨some 37,some (36,false),.fieldAddr 112 (tt 4) 2⟩,
      ⟨some 38,some (36,false),.load 3 (tt 37)⟩,
      ⟨some 39,some (36,false),.binOp .gtr 3 (tt 38) (ci 2147483647) 3⟩,
      ⟨some 40,none,.pick (tt 36) (cb true) (tt 39)⟩,
      ⟨some 15,none,.assign (tt 40)⟩])
     (.cond (tt 15) (.seq (.ops [⟨some 2,none,.assign (ci 2)⟩])
      (.ret))
     (.seq (.drw [(0,⟨some 42,none,.move (tt 3)⟩),
       (1,⟨some 43,none,.binOp .gtr 3 (tt 42) (ci 0) 3⟩),
       (3,⟨some 44,none,.move (tt 43)⟩),
       (7,⟨some 45,some (44,true),.fieldAddr 112 (tt 4) 0⟩),
       (15,⟨some 46,some (44,true),.load 3 (tt 45)⟩),
       (7,⟨some 47,some (44,true),.move (tt 0)⟩),
       (7,⟨some 48,some (44,true),.move (tt 3)⟩),
       (71,⟨some 49,some (44,true),.binOp .sub 3 (tt 48) (ci 1) 3⟩),
       (231,⟨some 50,some (44,true),.indexAddr 27 (tt 47) (tt 49)⟩),
       (487,⟨some 51,some (44,true),.fieldAddr 112 (tt 50) 0⟩),
       (999,⟨some 52,some (44,true),.load 3 (tt 51)⟩),
       (2047,⟨some 53,some (44,true),.binOp .lss 3 (tt 46) (tt 52) 3⟩),
       (4095,⟨some 54,some (44,true),.move (tt 53)⟩),
       (8191,⟨some 55,some (54,false),.fieldAddr 112 (tt 4) 0⟩),
       (16383,⟨some 56,some (54,false),.load 3 (tt 55)⟩),
       (8191,⟨some 57,some (54,false),.move (tt 0)⟩),
       (8191,⟨some 58,some (54,false),.move (tt 3)⟩),
       (73727,⟨some 59,some (54,false),.binOp .sub 3 (tt 58) (ci 1) 3⟩),
       (237567,⟨some 60,some (54,false),.indexAddr 27 (tt 57) (tt 59)⟩),
       (499711,⟨some 61,some (54,false),.fieldAddr 112 (tt 60) 0⟩),
       (1023999,⟨some 62,some (54,false),.load 3 (tt 61)⟩),
       (2097151,⟨some 63,some (54,false),.binOp .eql 3 (tt 56) (tt 62) 3⟩),
       (4194303,⟨some 64,some (54,false),.move (tt 63)⟩),
       (8388607,⟨some 65,some (64,true),.fieldAddr 112 (tt 4) 1⟩),
       (16777215,⟨some 66,some (64,true),.load 3 (tt 65)⟩),
       (8388607,⟨some 67,some (64,true),.move (tt 0)⟩),
       (8388607,⟨some 68,some (64,true),.move (tt 3)⟩),
       (75497471,⟨some 69,some (64,true),.binOp .sub 3 (tt 68) (ci 1) 3⟩),
       (243269631,⟨some 70,some (64,true),.indexAddr 27 (tt 67) (tt 69)⟩),
       (511705087,⟨some 71,some (64,true),.fieldAddr 112 (tt 70) 2⟩),
       (1048575999,⟨some 72,some (64,true),.load 3 (tt 71)⟩),
       (2122317823,⟨some 73,some (64,true),.binOp .add 3 (tt 72) (ci 1) 3⟩),
       (4294967295,⟨some 74,some (64,true),.binOp .leq 3 (tt 66) (tt 73) 3⟩),
       (8589934591,⟨some 75,some (54,false),.pick (tt 64) (tt 74) (cb false)⟩),
       (17179869183,⟨some 76,some (44,true),.pick (tt 54) (cb true) (tt 75)⟩),
       (34359738367,⟨some 77,none,.pick (tt 44) (tt 76) (cb false)⟩),
       (68719476735,⟨some 41,none,.assign (tt 77)⟩)])
      (.cond (tt 41) (.seq (.ops [⟨some 2,none,.assign (ci 2)⟩])
       (.ret))
      (.skip))))))))
   (.ops [⟨some 78,none,.binOp .add 3 (tt 10) (ci 1) 3⟩,
    ⟨some 10,none,.move (tt 78)⟩])))))))
 (.seq (.ops [⟨some 2,none,.assign (ci 0)⟩])
 (.ret))))
theorem i143 : fnI Tryz.prog 143 = some (79,[.tmp 2],c143) := by kernel_rfl
/-- slices.ContainsFunc[[]tributary/api.Span,tributary/api.Span] -/
def c144 : IC :=
 .seq (.ops [⟨some 4,none,.assign (cb false)⟩])
 (.seq (.ops [⟨some 5,none,.move (tt 0)⟩,
  ⟨some 6,none,.move (tt 1)⟩,
  ⟨some 7,none,.call ⟨(.value (ff 181)),#[(tt 5),(tt 6)],#[27, 161]⟩⟩,
  ⟨some 8,none,.binOp .geq 3 (tt 7) (ci 0) 3⟩,
  ⟨some 4,none,.assign (tt 8)⟩])
 (.ret))
theorem i144 : fnI Tryz.prog 144 = some (9,[.tmp 4],c144) := by kernel_rfl
/-- tributary/past.Has$1 -/
def c145 : IC :=
 .seq (.ops [⟨some 2,none,.box 112 (tt 0)⟩,
  ⟨some 3,none,.assign (cb false)⟩])
 (.seq (.ops [⟨some 4,none,.fieldAddr 112 (tt 2) 0⟩,
  ⟨some 5,none,.load 3 (tt 4)⟩,
  ⟨some 6,none,.fieldAddr 23 (tt 1) 0⟩,
  ⟨some 7,none,.load 3 (tt 6)⟩,
  ⟨some 8,none,.binOp .eql 3 (tt 5) (tt 7) 3⟩,
  ⟨some 9,none,.move (tt 8)⟩,
  ⟨some 10,some (9,true),.fieldAddr 112 (tt 2) 1⟩,
  ⟨some 11,some (9,true),.load 3 (tt 10)⟩,
  ⟨some 12,some (9,true),.fieldAddr 23 (tt 1) 1⟩,
  ⟨some 13,some (9,true),.load 3 (tt 12)⟩,
  ⟨some 14,some (9,true),.binOp .leq 3 (tt 11) (tt 13) 3⟩,
  ⟨some 15,none,.pick (tt 9) (tt 14) (cb false)⟩,
  ⟨some 16,none,.move (tt 15)⟩,
  ⟨some 17,some (16,true),.fieldAddr 23 (tt 1) 1⟩,
  ⟨some 18,some (16,true),.load 3 (tt 17)⟩,
  ⟨some 19,some (16,true),.fieldAddr 112 (tt 2) 2⟩,
  ⟨some 20,some (16,true),.load 3 (tt 19)⟩,
  ⟨some 21,some (16,true),.binOp .leq 3 (tt 18) (tt 20) 3⟩,
  ⟨some 22,none,.pick (tt 16) (tt 21) (cb false)⟩,
  ⟨some 3,none,.assign (tt 22)⟩])
 (.ret))
theorem i145 : fnI Tryz.prog 145 = some (23,[.tmp 3],c145) := by kernel_rfl
theorem is213 : isStrT Tryz.prog 213 = false := by kernel_rfl
theorem ar213 : arrT Tryz.prog 213 = some (4,true,2) := by kernel_rfl
theorem ze212 : zeroT Tryz.prog 212 = some (.agg ⟨[.int .i64 0,.int .i64 0]⟩) := by kernel_rfl
theorem sz212 : sizeT Tryz.prog 212 = some 2 := by kernel_rfl
theorem fd212_0 : fieldT Tryz.prog 212 0 = some (0,false,1) := by kernel_rfl
theorem fd212_1 : fieldT Tryz.prog 212 1 = some (1,false,1) := by kernel_rfl
/-- tributary/effect.Check -/
def c154 : IC :=
 .seq (.ops [⟨some 1,none,.box 26 (tt 0)⟩,
  ⟨some 2,none,.assign (ci 0)⟩])
 (.seq (.seq (.ops [⟨some 4,none,.fieldAddr 26 (tt 1) 0⟩,
  ⟨some 5,none,.load 3 (tt 4)⟩,
  ⟨some 6,none,.binOp .lss 3 (tt 5) (ci 1) 3⟩,
  ⟨some 7,none,.move (tt 6)⟩,
  ⟨some 8,some (7,false),.fieldAddr 26 (tt 1) 0⟩,
  ⟨some 9,some (7,false),.load 3 (tt 8)⟩,
  ⟨some 10,some (7,false),.binOp .gtr 3 (tt 9) (ci 3) 3⟩,
  ⟨some 11,none,.pick (tt 7) (cb true) (tt 10)⟩])
 (.cond (tt 11) (.seq (.ops [⟨some 2,none,.assign (ci 2)⟩])
  (.ret))
 (.skip)))
 (.seq (.seq (.drw [(0,⟨some 12,none,.call ⟨(.value (ff 197)),#[],#[]⟩⟩),
  (0,⟨some 13,none,.fieldAddr 26 (tt 1) 0⟩),
  (2,⟨some 14,none,.load 3 (tt 13)⟩),
  (7,⟨some 15,none,.index 213 (tt 12) (tt 14)⟩),
  (0,⟨some 3,none,.alloc 212⟩),
  (31,⟨none,none,.store 212 (tt 3) (tt 15)⟩)])
 (.seq (.ops [⟨some 16,none,.fieldAddr 26 (tt 1) 1⟩,
  ⟨some 17,none,.load 3 (tt 16)⟩,
  ⟨some 18,none,.binOp .lss 3 (tt 17) (ci 0) 3⟩,
  ⟨some 19,none,.move (tt 18)⟩,
  ⟨some 20,some (19,false),.fieldAddr 26 (tt 1) 1⟩,
  ⟨some 21,some (19,false),.load 3 (tt 20)⟩,
  ⟨some 22,some (19,false),.fieldAddr 212 (tt 3) 0⟩,
  ⟨some 23,some (19,false),.load 3 (tt 22)⟩,
  ⟨some 24,some (19,false),.binOp .gtr 3 (tt 21) (tt 23) 3⟩,
  ⟨some 25,none,.pick (tt 19) (cb true) (tt 24)⟩,
  ⟨some 26,none,.move (tt 25)⟩,
  ⟨some 27,some (26,false),.fieldAddr 26 (tt 1) 2⟩,
  ⟨some 28,some (26,false),.load 24 (tt 27)⟩,
  ⟨some 29,some (26,false),.call ⟨(.builtin .len),#[(tt 28)],#[24]⟩⟩,
  ⟨some 30,some (26,false),.fieldAddr 212 (tt 3) 1⟩,
  ⟨some 31,some (26,false),.load 3 (tt 30)⟩,
  ⟨some 32,some (26,false),.binOp .gtr 3 (tt 29) (tt 31) 3⟩,
  ⟨some 33,none,.pick (tt 26) (cb true) (tt 32)⟩])
 (.cond (tt 33) (.seq (.ops [⟨some 2,none,.assign (ci 2)⟩])
  (.ret))
 (.skip))))
 (.seq (.ops [⟨some 2,none,.assign (ci 0)⟩])
 (.ret))))
theorem i154 : fnI Tryz.prog 154 = some (34,[.tmp 2],c154) := by kernel_rfl
/-- tributary/past.Last -/
def c155 : IC :=
 .seq (.ops [⟨some 3,none,.box 3 (tt 1)⟩,
  ⟨some 4,none,.assign (ci 0)⟩])
 (.seq (.ops [⟨some 5,none,.move (tt 0)⟩,
  ⟨some 6,none,.makeFunc (.func 199) #[] #[(tt 3)]⟩,
  ⟨some 7,none,.call ⟨(.value (ff 198)),#[(tt 5),(tt 6)],#[27, 216]⟩⟩,
  ⟨some 4,none,.assign (tt 7)⟩])
 (.ret))
theorem i155 : fnI Tryz.prog 155 = some (8,[.tmp 4],c155) := by kernel_rfl
/-- bytes.Compare -/
def c164 : IC :=
 .seq (.ops [⟨some 4,none,.assign (ci 0)⟩])
 (.seq (.ops [⟨some 5,none,.move (tt 0)⟩,
  ⟨some 6,none,.move (tt 1)⟩,
  ⟨some 7,none,.call ⟨(.value (ff 200)),#[(tt 5),(tt 6)],#[24, 24]⟩⟩,
  ⟨some 4,none,.assign (tt 7)⟩])
 (.ret))
theorem i164 : fnI Tryz.prog 164 = some (8,[.tmp 4],c164) := by kernel_rfl
theorem ze9 : zeroT Tryz.prog 9 = some (.string ⟨#[]⟩) := by kernel_rfl
theorem by9 : bytesT Tryz.prog 9 = some 16 := by kernel_rfl
theorem in180 : isIntD (Tryz.prog.underlying 180) = some false := by kernel_rfl
/-- tributary/tributaryref03.cut -/
def c165 : IC :=
 .seq (.ops [⟨some 2,none,.assign (.const (.slice none 0 0))⟩])
 (.seq (.ops [⟨some 3,none,.assign (.const (.slice none 0 0))⟩])
 (.seq (.ops [⟨some 4,none,.assign (ci 0)⟩])
 (.seq (.seq (.ops [⟨some 5,none,.assign (ci 0)⟩])
 (.block 0 (.loop (.seq (.seq (.ops [⟨some 6,none,.move (tt 5)⟩,
    ⟨some 7,none,.move (tt 0)⟩,
    ⟨some 8,none,.call ⟨(.builtin .len),#[(tt 7)],#[9]⟩⟩,
    ⟨some 9,none,.binOp .lss 3 (tt 6) (tt 8) 3⟩])
   (.cond (tt 9) (.skip)
   (.exit 0)))
   (.seq (.block 1 (.seq (.ops [⟨some 12,none,.move (tt 0)⟩,
     ⟨some 13,none,.move (tt 5)⟩,
     ⟨some 14,none,.index 9 (tt 12) (tt 13)⟩,
     ⟨some 15,none,.binOp .eql 5 (tt 14) (.const (.int .u8 47)) 5⟩])
    (.cond (tt 15) (.seq (.ops [⟨some 16,none,.move (tt 3)⟩,
      ⟨some 17,none,.move (tt 0)⟩,
      ⟨some 18,none,.move (tt 4)⟩,
      ⟨some 19,none,.move (tt 5)⟩,
      ⟨some 20,none,.slice 9 (tt 17) (some (tt 18)) (some (tt 19)) none⟩,
      ⟨some 21,none,.buildSlice 180 1 #[(0,(tt 20))]⟩,
      ⟨some 22,none,.call ⟨(.builtin .append),#[(tt 16),(tt 21)],#[180, 180]⟩⟩,
      ⟨some 3,none,.assign (tt 22)⟩])
     (.ops [⟨some 23,none,.move (tt 5)⟩,
      ⟨some 24,none,.binOp .add 3 (tt 23) (ci 1) 3⟩,
      ⟨some 4,none,.assign (tt 24)⟩]))
    (.skip))))
   (.ops [⟨some 10,none,.move (tt 5)⟩,
    ⟨some 11,none,.binOp .add 3 (tt 10) (ci 1) 3⟩,
    ⟨some 5,none,.assign (tt 11)⟩]))))))
 (.seq (.ops [⟨some 25,none,.move (tt 3)⟩,
  ⟨some 26,none,.move (tt 0)⟩,
  ⟨some 27,none,.move (tt 4)⟩,
  ⟨some 28,none,.slice 9 (tt 26) (some (tt 27)) none none⟩,
  ⟨some 29,none,.buildSlice 180 1 #[(0,(tt 28))]⟩,
  ⟨some 30,none,.call ⟨(.builtin .append),#[(tt 25),(tt 29)],#[180, 180]⟩⟩,
  ⟨some 2,none,.assign (tt 30)⟩])
 (.ret)))))
theorem i165 : fnI Tryz.prog 165 = some (31,[.tmp 2],c165) := by kernel_rfl
/-- tributary/tributaryref03.part -/
def c166 : IC :=
 .seq (.ops [⟨some 2,none,.assign (cb false)⟩])
 (.seq (.seq (.ops [⟨some 3,none,.assign (ci 0)⟩])
 (.block 0 (.loop (.seq (.seq (.ops [⟨some 5,none,.move (tt 3)⟩,
    ⟨some 6,none,.move (tt 0)⟩,
    ⟨some 7,none,.call ⟨(.builtin .len),#[(tt 6)],#[9]⟩⟩,
    ⟨some 8,none,.binOp .lss 3 (tt 5) (tt 7) 3⟩])
   (.cond (tt 8) (.skip)
   (.exit 0)))
   (.seq (.block 1 (.seq (.ops [⟨some 11,none,.move (tt 0)⟩,
     ⟨some 12,none,.move (tt 3)⟩,
     ⟨some 13,none,.index 9 (tt 11) (tt 12)⟩,
     ⟨some 4,none,.assign (tt 13)⟩])
    (.seq (.ops [⟨some 14,none,.move (tt 4)⟩,
     ⟨some 15,none,.binOp .lss 5 (tt 14) (.const (.int .u8 97)) 5⟩,
     ⟨some 16,none,.move (tt 15)⟩,
     ⟨some 17,some (16,false),.move (tt 4)⟩,
     ⟨some 18,some (16,false),.binOp .gtr 5 (tt 17) (.const (.int .u8 122)) 5⟩,
     ⟨some 19,none,.pick (tt 16) (cb true) (tt 18)⟩,
     ⟨some 20,none,.move (tt 19)⟩,
     ⟨some 21,some (20,true),.move (tt 4)⟩,
     ⟨some 22,some (20,true),.binOp .lss 5 (tt 21) (.const (.int .u8 48)) 5⟩,
     ⟨some 23,some (20,true),.move (tt 22)⟩,
     ⟨some 24,some (23,false),.move (tt 4)⟩,
     ⟨some 25,some (23,false),.binOp .gtr 5 (tt 24) (.const (.int .u8 57)) 5⟩,
     ⟨some 26,some (20,true),.pick (tt 23) (cb true) (tt 25)⟩,
     ⟨some 27,none,.pick (tt 20) (tt 26) (cb false)⟩,
     ⟨some 28,none,.move (tt 27)⟩,
     ⟨some 29,some (28,true),.move (tt 4)⟩,
     ⟨some 30,some (28,true),.binOp .neq 5 (tt 29) (.const (.int .u8 46)) 5⟩,
     ⟨some 31,none,.pick (tt 28) (tt 30) (cb false)⟩,
     ⟨some 32,none,.move (tt 31)⟩,
     ⟨some 33,some (32,true),.move (tt 4)⟩,
     ⟨some 34,some (32,true),.binOp .neq 5 (tt 33) (.const (.int .u8 95)) 5⟩,
     ⟨some 35,none,.pick (tt 32) (tt 34) (cb false)⟩,
     ⟨some 36,none,.move (tt 35)⟩,
     ⟨some 37,some (36,true),.move (tt 4)⟩,
     ⟨some 38,some (36,true),.binOp .neq 5 (tt 37) (.const (.int .u8 45)) 5⟩,
     ⟨some 39,none,.pick (tt 36) (tt 38) (cb false)⟩])
    (.cond (tt 39) (.seq (.ops [⟨some 2,none,.assign (cb false)⟩])
     (.ret))
    (.skip)))))
   (.ops [⟨some 9,none,.move (tt 3)⟩,
    ⟨some 10,none,.binOp .add 3 (tt 9) (ci 1) 3⟩,
    ⟨some 3,none,.assign (tt 10)⟩]))))))
 (.seq (.ops [⟨some 40,none,.move (tt 0)⟩,
  ⟨some 41,none,.call ⟨(.builtin .len),#[(tt 40)],#[9]⟩⟩,
  ⟨some 42,none,.binOp .geq 3 (tt 41) (ci 1) 3⟩,
  ⟨some 43,none,.move (tt 42)⟩,
  ⟨some 44,some (43,true),.move (tt 0)⟩,
  ⟨some 45,some (43,true),.call ⟨(.builtin .len),#[(tt 44)],#[9]⟩⟩,
  ⟨some 46,some (43,true),.binOp .leq 3 (tt 45) (ci 12) 3⟩,
  ⟨some 47,none,.pick (tt 43) (tt 46) (cb false)⟩,
  ⟨some 48,none,.move (tt 47)⟩,
  ⟨some 49,some (48,true),.move (tt 0)⟩,
  ⟨some 50,some (48,true),.binOp .neq 9 (tt 49) (.const (.string ⟨#[46]⟩)) 9⟩,
  ⟨some 51,none,.pick (tt 48) (tt 50) (cb false)⟩,
  ⟨some 52,none,.move (tt 51)⟩,
  ⟨some 53,some (52,true),.move (tt 0)⟩,
  ⟨some 54,some (52,true),.binOp .neq 9 (tt 53) (.const (.string ⟨#[46, 46]⟩)) 9⟩,
  ⟨some 55,none,.pick (tt 52) (tt 54) (cb false)⟩,
  ⟨some 2,none,.assign (tt 55)⟩])
 (.ret)))
theorem i166 : fnI Tryz.prog 166 = some (56,[.tmp 2],c166) := by kernel_rfl
/-- cmp.isNaN[int] -/
def c177 : IC :=
 .seq (.ops [⟨some 2,none,.assign (cb false)⟩])
 (.seq (.ops [⟨some 3,none,.move (tt 0)⟩,
  ⟨some 4,none,.move (tt 0)⟩,
  ⟨some 5,none,.binOp .neq 3 (tt 3) (tt 4) 3⟩,
  ⟨some 2,none,.assign (tt 5)⟩])
 (.ret))
theorem i177 : fnI Tryz.prog 177 = some (6,[.tmp 2],c177) := by kernel_rfl
/-- internal/stringslite.CutPrefix -/
def c179 : IC :=
 .seq (.ops [⟨some 4,none,.assign (.const (.string ⟨#[]⟩))⟩,
  ⟨some 5,none,.assign (cb false)⟩])
 (.seq (.seq (.ops [⟨some 6,none,.move (tt 0)⟩,
  ⟨some 7,none,.move (tt 1)⟩,
  ⟨some 8,none,.call ⟨(.value (ff 180)),#[(tt 6),(tt 7)],#[9, 9]⟩⟩,
  ⟨some 9,none,.unOp .not 4 (tt 8)⟩])
 (.cond (tt 9) (.seq (.ops [⟨some 10,none,.move (tt 0)⟩,
   ⟨some 4,none,.assign (tt 10)⟩,
   ⟨some 5,none,.assign (cb false)⟩])
  (.ret))
 (.skip)))
 (.seq (.ops [⟨some 11,none,.move (tt 0)⟩,
  ⟨some 12,none,.move (tt 1)⟩,
  ⟨some 13,none,.call ⟨(.builtin .len),#[(tt 12)],#[9]⟩⟩,
  ⟨some 14,none,.slice 9 (tt 11) (some (tt 13)) none none⟩,
  ⟨some 4,none,.assign (tt 14)⟩,
  ⟨some 5,none,.assign (cb true)⟩])
 (.ret)))
theorem i179 : fnI Tryz.prog 179 = some (15,[.tmp 4,.tmp 5],c179) := by kernel_rfl
/-- internal/stringslite.HasPrefix -/
def c180 : IC :=
 .seq (.ops [⟨some 4,none,.assign (cb false)⟩])
 (.seq (.ops [⟨some 5,none,.move (tt 0)⟩,
  ⟨some 6,none,.call ⟨(.builtin .len),#[(tt 5)],#[9]⟩⟩,
  ⟨some 7,none,.move (tt 1)⟩,
  ⟨some 8,none,.call ⟨(.builtin .len),#[(tt 7)],#[9]⟩⟩,
  ⟨some 9,none,.binOp .geq 3 (tt 6) (tt 8) 3⟩,
  ⟨some 10,none,.move (tt 9)⟩,
  ⟨some 11,some (10,true),.move (tt 0)⟩,
  ⟨some 12,some (10,true),.move (tt 1)⟩,
  ⟨some 13,some (10,true),.call ⟨(.builtin .len),#[(tt 12)],#[9]⟩⟩,
  ⟨some 14,some (10,true),.slice 9 (tt 11) none (some (tt 13)) none⟩,
  ⟨some 15,some (10,true),.move (tt 1)⟩,
  ⟨some 16,some (10,true),.binOp .eql 9 (tt 14) (tt 15) 9⟩,
  ⟨some 17,none,.pick (tt 10) (tt 16) (cb false)⟩,
  ⟨some 4,none,.assign (tt 17)⟩])
 (.ret))
theorem i180 : fnI Tryz.prog 180 = some (18,[.tmp 4],c180) := by kernel_rfl
/-- slices.IndexFunc[[]tributary/api.Span,tributary/api.Span] -/
def c181 : IC :=
 .seq (.ops [⟨some 4,none,.assign (ci 0)⟩])
 (.seq (.seq (.ops [⟨some 6,none,.move (tt 0)⟩,
  ⟨some 7,none,.call ⟨(.builtin .len),#[(tt 6)],#[27]⟩⟩,
  ⟨some 8,none,.move (ci 0)⟩])
 (.block 0 (.loop (.seq (.ops [⟨some 9,none,.binOp .lss 3 (tt 8) (tt 7) 3⟩])
   (.seq (.cond (tt 9) (.skip)
   (.exit 0))
   (.seq (.block 1 (.seq (.ops [⟨some 10,none,.move (tt 8)⟩,
     ⟨some 5,none,.assign (tt 10)⟩])
    (.seq (.ops [⟨some 11,none,.move (tt 1)⟩,
     ⟨some 12,none,.move (tt 0)⟩,
     ⟨some 13,none,.move (tt 5)⟩,
     ⟨some 14,none,.indexAddr 27 (tt 12) (tt 13)⟩,
     ⟨some 15,none,.load 112 (tt 14)⟩,
     ⟨some 16,none,.call ⟨(.value (tt 11)),#[(tt 15)],#[112]⟩⟩])
    (.cond (tt 16) (.seq (.ops [⟨some 17,none,.move (tt 5)⟩,
      ⟨some 4,none,.assign (tt 17)⟩])
     (.ret))
    (.skip)))))
   (.ops [⟨some 18,none,.binOp .add 3 (tt 8) (ci 1) 3⟩,
    ⟨some 8,none,.move (tt 18)⟩])))))))
 (.seq (.ops [⟨some 4,none,.assign (ci (-1))⟩])
 (.ret)))
theorem i181 : fnI Tryz.prog 181 = some (19,[.tmp 4],c181) := by kernel_rfl
theorem ze213 : zeroT Tryz.prog 213 = some (.agg ⟨[.int .i64 0,.int .i64 0,.int .i64 0,.int .i64 0,.int .i64 0,.int .i64 0,.int .i64 0,.int .i64 0]⟩) := by kernel_rfl
theorem st212 : structT Tryz.prog 212 = some [(0,1), (1,1)] := by kernel_rfl
theorem st213 : structT Tryz.prog 213 = none := by kernel_rfl
theorem sz213 : sizeT Tryz.prog 213 = some 8 := by kernel_rfl
theorem sh213 : shapeT Tryz.prog 213 = some (true,8) := by kernel_rfl
/-- tributary/effect.rules -/
def c197 : IC :=
 .seq (.ops [⟨some 0,none,.alloc 213⟩])
 (.seq (.ops [⟨some 1,none,.build 212 #[(0,(ci 511)),(1,(ci 1000))]⟩,
  ⟨some 2,none,.build 212 #[(0,(ci 511))]⟩,
  ⟨some 3,none,.build 212 #[]⟩,
  ⟨some 4,none,.build 213 #[(1,(tt 1)),(2,(tt 2)),(3,(tt 3))]⟩,
  ⟨none,none,.store 213 (tt 0) (tt 4)⟩])
 (.ret))
theorem i197 : fnI Tryz.prog 197 = some (5,[.cell 0 213],c197) := by kernel_rfl
/-- tributary/past.fold[int] -/
def c198 : IC :=
 .seq (.ops [⟨some 4,none,.assign (ci 0)⟩])
 (.seq (.ops [⟨some 5,none,.assign (ci 0)⟩])
 (.seq (.seq (.ops [⟨some 8,none,.move (tt 0)⟩,
  ⟨some 9,none,.call ⟨(.value (ff 143)),#[(tt 8)],#[27]⟩⟩,
  ⟨some 10,none,.binOp .neq 36 (tt 9) (ci 0) 36⟩])
 (.cond (tt 10) (.seq (.ops [⟨some 11,none,.move (tt 5)⟩,
   ⟨some 4,none,.assign (tt 11)⟩])
  (.ret))
 (.skip)))
 (.seq (.seq (.ops [⟨some 12,none,.move (tt 0)⟩,
  ⟨some 13,none,.call ⟨(.builtin .len),#[(tt 12)],#[27]⟩⟩,
  ⟨some 14,none,.move (ci 0)⟩])
 (.block 0 (.loop (.seq (.ops [⟨some 15,none,.binOp .lss 3 (tt 14) (tt 13) 3⟩])
   (.seq (.cond (tt 15) (.skip)
   (.exit 0))
   (.seq (.block 1 (.seq (.ops [⟨some 16,none,.indexAddr 27 (tt 12) (tt 14)⟩,
     ⟨some 17,none,.load 112 (tt 16)⟩,
     ⟨some 7,none,.alloc 112⟩,
     ⟨none,none,.store 112 (tt 7) (tt 17)⟩])
    (.ops [⟨some 18,none,.move (tt 1)⟩,
     ⟨some 19,none,.move (tt 5)⟩,
     ⟨some 20,none,.load 112 (tt 7)⟩,
     ⟨some 21,none,.call ⟨(.value (tt 18)),#[(tt 19),(tt 20)],#[3, 112]⟩⟩,
     ⟨some 5,none,.assign (tt 21)⟩])))
   (.ops [⟨some 22,none,.binOp .add 3 (tt 14) (ci 1) 3⟩,
    ⟨some 14,none,.move (tt 22)⟩])))))))
 (.seq (.ops [⟨some 23,none,.move (tt 5)⟩,
  ⟨some 4,none,.assign (tt 23)⟩])
 (.ret)))))
theorem i198 : fnI Tryz.prog 198 = some (24,[.tmp 4],c198) := by kernel_rfl
/-- tributary/past.Last$1 -/
def c199 : IC :=
 .seq (.ops [⟨some 4,none,.box 112 (tt 1)⟩,
  ⟨some 5,none,.assign (ci 0)⟩])
 (.seq (.seq (.ops [⟨some 6,none,.fieldAddr 112 (tt 4) 0⟩,
  ⟨some 7,none,.load 3 (tt 6)⟩,
  ⟨some 8,none,.load 3 (tt 2)⟩,
  ⟨some 9,none,.binOp .neq 3 (tt 7) (tt 8) 3⟩])
 (.cond (tt 9) (.seq (.ops [⟨some 10,none,.move (tt 0)⟩,
   ⟨some 5,none,.assign (tt 10)⟩])
  (.ret))
 (.skip)))
 (.seq (.ops [⟨some 11,none,.move (tt 0)⟩,
  ⟨some 12,none,.fieldAddr 112 (tt 4) 2⟩,
  ⟨some 13,none,.load 3 (tt 12)⟩,
  ⟨some 14,none,.call ⟨(.builtin .max),#[(tt 11),(tt 13)],#[3, 3]⟩⟩,
  ⟨some 5,none,.assign (tt 14)⟩])
 (.ret)))
theorem i199 : fnI Tryz.prog 199 = some (15,[.tmp 5],c199) := by kernel_rfl
/-- internal/bytealg.Compare: no body -/
theorem nb200 : noBody Tryz.prog 200 = true := by kernel_rfl
attribute [go_sem] sh29 sl31 ze29 sz29 ze35 sz35 sh35 nt35 nt36 nt4 lk31 nt3 ar31 fd29_1 sh9 lk9 fd29_2 sh26 fd29_3 sh27 lk27 sz26 sz27 st35 fd29_0 sh23 nt23 nt9 ze114 st114 sz114 sh114 sl115 ze32 lk115 ar115 sh32 cv24_9 fd26_2 sh24 lk24 ze26 sz24 sl27 ze112 by112 in27 fd23_0 sh3 fd23_1 fd26_0 fd26_1 ar27 sh112 nt112 sl134 ze3 fd114_0 sl24 ze5 by5 in24 ze179 st179 ar179 sz179 is179 sl179 lk180 ar180 sl180 sz112 fd112_0 fd112_1 fd112_2 is9 ar9 sl9 nt5 lk134 ar134 is213 ar213 ze212 sz212 fd212_0 fd212_1 ze9 by9 in180 ze213 st212 st213 sz213 sh213
end Go.Proofs.YtpnaenbpffhjfaaGreatDoor.Z1

