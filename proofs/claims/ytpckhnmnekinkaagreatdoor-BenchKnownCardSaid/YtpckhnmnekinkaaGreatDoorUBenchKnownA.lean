/- BenchKnown: calls that are written down with what they meet of memory, part A: each reckoned by the evaluator, in the kernel. No conditions. -/
import Derived.Test.YtpckhnmnekinkaaGreatDoorUBenchKnownT
import Derived.Test.YtpckhnmnekinkaaGreatDoorProg
import Derived.KernelRfl
set_option linter.unusedVariables false
set_option maxRecDepth 1000000
namespace Go.Proofs.YtpckhnmnekinkaaGreatDoor.Q.BenchKnown
open Go.RowKit
open Go.Proofs.YtpckhnmnekinkaaGreatDoor.Ev (sV bV iV bL tL sl sx pt mp nS nP nM u3 u6 i3 bT bF ag K0 K1 Fm Row RowGood RowH RowHGood LO putAt)
def a0:List (Nat×LO):=[e 61 Dd,e 62 D17,(63,K0 [pt 62 0,nP,iV 1,iV 1,iV 1000,u3 0,i3 1,u3 0,iV 0,nP,iV 0,iV 0,iV 0,iV 0,nS,nS,nS,nS,nP,nM])]
def b0:List (Nat×LO):=pat [e 61 D1y,e 62 D9,(63,K0 [pt 62 0,nP,iV 1,iV 1,iV 1000,u3 0,i3 1,u3 0,iV 0,pt 81 0,iV 1,iV 1,iV 0,iV 1,nS,nS,nS,nS,pt 210 0,mp 387]),e 81 D1z,e 175 D20,e 210 Dh,e 350 D0,e 351 D2,e 384 D0,e 385 Da,e 387 Dd] a0
def p0:RowH:=⟨214,⟨64,[pt 63 0],a0,iV 0,b0,388⟩⟩
theorem G0:Gd p0:=G [] Z (by decide) (by decide +kernel)
def a6:List (Nat×LO):=[e 61 D5,e 62 D9,(63,K0 [pt 62 0,nP,iV 2,iV 2,iV 1000,u3 1,i3 0,u3 0,iV 0,pt 64 0,iV 2,iV 2,iV 0,iV 1,nS,nS,nS,nS,pt 66 0,mp 72]),e 64 Dz,e 65 Du,e 68 D0,e 69 D2,e 70 D0,e 71 Da]
def b6:List (Nat×LO):=pat [e 62 Db,(63,K0 [pt 62 0,nP,iV 2,iV 2,iV 1000,u3 1,i3 0,u3 0,iV 0,pt 64 0,iV 2,iV 2,iV 0,iV 1,nS,nS,sl 142 0 2 1 1,nS,pt 66 0,mp 72]),e 64 D24,e 65 D1b,e 68 D1c,e 141 D0,e 142 D7,e 301 D1d,e 334 D0,e 335 D27] a6
def p6:RowH:=⟨178,⟨73,[pt 63 0,ag [iV 4,iV 1,iV 0,iV 0,sV [],iV 0,iV 0,nS,nS,sV [],iV 0,iV 0,nS,nS,iV 0,iV 0,nS]],a6,iV 0,b6,337⟩⟩
theorem G6:Gd p6:=G [] Z (by decide) (by decide +kernel)
def a7:List (Nat×LO):=[e 61 D5,e 62 Db,(63,K0 [pt 62 0,nP,iV 2,iV 2,iV 1000,u3 1,i3 0,u3 0,iV 0,pt 64 0,iV 2,iV 2,iV 0,iV 1,nS,nS,sl 72 0 2 1 1,nS,pt 66 0,mp 70]),e 64 D25,e 65 D1e,e 68 D1f,e 69 D2,e 71 D0,e 72 D7,e 74 D1g,e 75 D0,e 76 D27]
def b7:List (Nat×LO):=pat [e 62 D6,(63,K0 [pt 62 0,nP,iV 2,iV 2,iV 1000,u3 1,i3 0,u3 0,iV 0,pt 64 0,iV 2,iV 2,iV 0,iV 2,nS,nS,sl 145 0 2 1 1,nS,pt 66 0,mp 70]),e 64 D26,e 65 D1h,e 68 Dp,e 144 D0,e 145 D7,e 303 D1i,e 336 D0,e 337 Dq] a7
def p7:RowH:=⟨178,⟨77,[pt 63 0,ag [iV 7,iV 2,iV 0,iV 0,sV [],iV 0,iV 0,nS,nS,sV [],iV 0,iV 0,nS,nS,iV 0,iV 0,nS]],a7,iV 0,b7,339⟩⟩
theorem G7:Gd p7:=G [] Z (by decide) (by decide +kernel)
def a11:List (Nat×LO):=[e 61 D5,e 62 D6,e 63 D1o,e 64 D11,e 65 Dl,e 68 Df,e 69 D2,e 72 D8,e 73 D0,e 74 D7,e 76 Dm,e 77 D0,e 78 Dq]
def b11:List (Nat×LO):=pat [e 62 D4,(63,K0 [pt 62 0,nP,iV 2,iV 2,iV 1000,u3 1,i3 0,u3 0,iV 0,pt 64 0,iV 2,iV 2,iV 0,iV 2,nS,nS,sl 147 0 2 1 1,nS,pt 66 0,mp 70]),(64,K0 [pt 62 0,sV [110],u3 1,i3 0,u3 0,iV 0,iV 0,nS,sl 364 0 1 4 4,bF]),(65,K0 [sl 398 0 1 92 92,bT,nS]),(68,Fm 364 69),e 146 D0,e 147 D7,e 362 D0,(363,K1 (bL [1,4,1,1,1,2,0,0]) 362),(364,K1 [sl 67 0 1 4 4,sl 71 0 1 8 8,sl 75 0 1 4 4,sl 363 0 1 8 8] 68),e 397 D0,e 398 D2e] a11
def p11:RowH:=⟨178,⟨79,[pt 63 0,ag [iV 4,iV 1,iV 0,iV 0,sV [],iV 0,iV 0,nS,nS,sV [],iV 0,iV 0,nS,nS,iV 0,iV 0,nS]],a11,iV 0,b11,400⟩⟩
theorem G11:Gd p11:=G [] Z (by decide) (by decide +kernel)
def a12:List (Nat×LO):=[e 61 D5,e 62 D4,(63,K0 [pt 62 0,nP,iV 2,iV 2,iV 1000,u3 1,i3 0,u3 0,iV 0,pt 64 0,iV 2,iV 2,iV 0,iV 2,nS,nS,sl 76 0 2 1 1,nS,pt 66 0,mp 70]),(64,K0 [pt 62 0,sV [110],u3 1,i3 0,u3 0,iV 0,iV 0,nS,sl 78 0 1 4 4,bF]),(65,K0 [sl 80 0 1 92 92,bT,nS]),e 68 D2f,e 69 D2,e 72 D8,e 74 D12,e 75 D0,e 76 D7,(78,K1 [sl 67 0 1 4 4,sl 71 0 1 8 8,sl 73 0 1 4 4,sl 77 0 1 8 8] 68),e 79 D0,e 80 D2e]
def b12:List (Nat×LO):=pat [e 62 Di,(63,K0 [pt 62 0,nP,iV 2,iV 2,iV 1000,u3 1,i3 0,u3 0,iV 0,pt 64 0,iV 2,iV 2,iV 0,iV 3,nS,nS,sl 149 0 2 1 1,nS,pt 66 0,mp 70]),(64,K0 [pt 62 0,sV [110],u3 1,i3 0,u3 0,iV 0,iV 0,nS,sl 307 0 1 5 5,bF]),(65,K0 [sl 341 0 1 108 108,bT,nS]),(68,Fm 307 69),e 305 D0,e 306 Dx,e 340 D0,(341,K1 (bL [0,0,0,8,168,199,248,50,40,26,57,197,0,0,0,0,0,0,0,0,0,0,0,4,164,125,234,119,66,173,119,67,1,7,1,1,0,0,0,8,245,184,102,16,166,131,185,245,1,4,1,1,1,2,0,0,0,0,0,4,164,125,235,119,66,173,120,246,1,7,1,2,0,0,0,8,245,184,102,16,166,131,185,245,1,4,1,1,1,2,0,0,0,0,0,4,164,125,236,119,66,173,122,169,1,7,1,3]) 340)] a12
def p12:RowH:=⟨178,⟨81,[pt 63 0,ag [iV 7,iV 3,iV 0,iV 0,sV [],iV 0,iV 0,nS,nS,sV [],iV 0,iV 0,nS,nS,iV 0,iV 0,nS]],a12,iV 0,b12,343⟩⟩
theorem G12:Gd p12:=G [] Z (by decide) (by decide +kernel)
def a21:List (Nat×LO):=[e 61 D15,e 62 D6,(64,K0 [pt 62 0,pt 63 0,iV 3,iV 3,iV 1000,u3 1,i3 0,u3 0,iV 0,pt 65 0,iV 3,iV 3,iV 0,iV 2,nS,nS,sl 75 0 2 1 1,nS,pt 67 0,mp 71]),(65,K0 [pt 62 0,sV [110],u3 1,i3 0,u3 0,iV 0,iV 0,nS,sl 77 0 1 3 3,bF]),e 66 Dl,e 69 Df,e 70 D2,e 73 D8,e 74 D0,e 75 D3,e 77 Dm,e 78 D0,e 79 De,e 80 D0,e 81 D1]
def b21:List (Nat×LO):=pat [e 62 D4,(64,K0 [pt 62 0,pt 63 0,iV 3,iV 3,iV 1000,u3 1,i3 0,u3 0,iV 0,pt 65 0,iV 3,iV 3,iV 1,iV 2,sl 500 0 7 1 1,sl 711 0 5 1 1,sl 150 0 2 1 1,nS,pt 67 0,mp 71]),(65,K0 [pt 62 0,sV [110],u3 1,i3 0,u3 0,iV 0,iV 0,nS,sl 1155 0 1 4 4,bF]),(66,K0 [sl 1189 0 1 107 107,bT,nS]),(69,Fm 1155 70),e 149 D0,e 150 D3,e 496 D0,e 497 D1,e 499 D0,e 500 D1q,e 704 D0,e 705 D1,e 707 D0,e 708 Dc,e 710 D0,e 711 D1r,(1155,K1 [sl 68 0 1 4 4,sl 72 0 1 8 8,sl 76 0 1 4 4,sl 1154 0 1 23 23] 69),e 1188 D0,e 1189 Dg] a21
def p21:RowH:=⟨178,⟨82,[pt 64 0,ag [iV 1,iV 0,iV 3,iV 1,sV [102],iV 1,iV 0,sl 81 0 1 1 1,nS,sV [],iV 0,iV 0,nS,nS,iV 0,iV 0,nS]],a21,iV 0,b21,1191⟩⟩
theorem G21:Gd p21:=G [] Z (by decide) (by decide +kernel)
def a23:List (Nat×LO):=[e 61 D0,e 62 Dt,e 63 D2f,e 64 D2,e 65 D0,e 66 D2m,e 67 D8,e 68 D0,e 69 Do,(70,K1 [sl 62 0 1 4 4,sl 66 0 1 8 8,sl 69 0 1 4 4] 63),e 71 D0,(72,K1 (bL [1,1,1,19,1,3,1,1,1,1,102,1,6,1,1,0,1,1,7,1,2,0,0]) 71),(73,K1 [sl 62 0 1 4 4,sl 66 0 1 8 8,sl 69 0 1 4 4,sl 72 0 1 23 23] 63)]
def b23:List (Nat×LO):=pat [e 2151 D0,e 2152 D3,e 2498 D0,e 2499 D1,e 2501 D0,e 2502 D1q,e 2706 D0,e 2707 D1,e 2709 D0,e 2710 Dc,e 2712 D0,e 2713 D1r] a23
def p23:RowH:=⟨115,⟨74,[ag [iV 3,iV 3,iV 0,iV 0,nS,nS,nS,nS],sl 73 0 1 4 4],a23,.tuple ⟨[ag [iV 3,iV 3,iV 1,iV 2,sl 2502 0 7 1 1,sl 2713 0 5 1 1,sl 2152 0 2 1 1,nS],iV 0]⟩,b23,2870⟩⟩
theorem G23:Gd p23:=G [] Z (by decide) (by decide +kernel)
def a28:List (Nat×LO):=[e 61 D1j,e 62 D6,(63,K0 [pt 62 0,nP,iV 1,iV 1,iV 1000,u3 1,i3 1,u3 0,iV 0,pt 68 0,iV 1,iV 1,iV 0,iV 2,nS,nS,sl 77 0 2 1 1,nS,pt 78 0,mp 65]),e 64 D1k,e 66 D0,e 67 De,e 68 D29,e 70 D1l,e 71 D2,e 73 Dv,e 75 Dw,e 76 D0,e 77 D3]
def b28:List (Nat×LO):=pat [e 62 D4,(63,K0 [pt 62 0,nP,iV 1,iV 1,iV 1000,u3 1,i3 1,u3 0,iV 0,pt 68 0,iV 1,iV 1,iV 0,iV 3,nS,nS,sl 147 0 2 1 1,nS,pt 78 0,mp 65]),e 64 D1m,e 68 D2a,e 70 Dp,e 146 D0,e 147 D3,e 305 D1n,e 338 D0,e 339 D1p] a28
def p28:RowH:=⟨178,⟨79,[pt 63 0,ag [iV 7,iV 3,iV 0,iV 0,sV [],iV 0,iV 0,nS,nS,sV [],iV 0,iV 0,nS,nS,iV 0,iV 0,nS]],a28,iV 0,b28,341⟩⟩
theorem G28:Gd p28:=G [] Z (by decide) (by decide +kernel)
def a29:List (Nat×LO):=[e 61 D5,e 62 D6,(63,K0 [pt 62 0,nP,iV 1,iV 1,iV 1000,u3 1,i3 0,u3 0,iV 0,pt 64 0,iV 1,iV 1,iV 0,iV 2,nS,nS,sl 74 0 2 1 1,nS,pt 66 0,mp 70]),e 64 D11,e 65 Dl,e 68 Df,e 69 D2,e 72 D8,e 73 D0,e 74 D3,e 76 Dm,e 77 D0,e 78 De]
def b29:List (Nat×LO):=pat [e 62 D4,(63,K0 [pt 62 0,nP,iV 1,iV 1,iV 1000,u3 1,i3 0,u3 0,iV 0,pt 64 0,iV 1,iV 1,iV 0,iV 2,nS,nS,sl 147 0 2 0 1,nS,pt 66 0,mp 70]),e 64 D2b,e 65 D2c,e 68 D2d] a29
def p29:RowH:=⟨178,⟨79,[pt 63 0,ag [iV 6,iV 2,iV 0,iV 0,sV [],iV 0,iV 0,nS,nS,sV [],iV 0,iV 0,nS,nS,iV 0,iV 0,nS]],a29,iV 0,b29,352⟩⟩
theorem G29:Gd p29:=G [] Z (by decide) (by decide +kernel)
end Go.Proofs.YtpckhnmnekinkaaGreatDoor.Q.BenchKnown
