/- BenchKnown: calls that are written down with what they meet of memory, part B: each reckoned by the evaluator, in the kernel. No conditions. -/
import Derived.Test.YtpckhnmnekinkaaGreatDoorUBenchKnownT
import Derived.Test.YtpckhnmnekinkaaGreatDoorProg
import Derived.KernelRfl
set_option linter.unusedVariables false
set_option maxRecDepth 1000000
namespace Go.Proofs.YtpckhnmnekinkaaGreatDoor.Q.BenchKnown
open Go.RowKit
open Go.Proofs.YtpckhnmnekinkaaGreatDoor.Ev (sV bV iV bL tL sl sx pt mp nS nP nM u3 u6 i3 bT bF ag K0 K1 Fm Row RowGood RowH RowHGood LO putAt)
def a2:List (Nat×LO):=[e 61 D5,e 62 D9,(63,K0 [pt 62 0,nP,iV 1,iV 1,iV 1000,u3 1,i3 1,u3 0,iV 0,pt 64 0,iV 1,iV 1,iV 0,iV 1,nS,nS,nS,nS,pt 66 0,mp 69]),e 65 D18,e 67 D0,e 68 Da]
def b2:List (Nat×LO):=pat [e 62 Db,(63,K0 [pt 62 0,nP,iV 1,iV 1,iV 1000,u3 1,i3 1,u3 0,iV 0,pt 87 0,iV 1,iV 1,iV 0,iV 2,nS,nS,nS,nS,pt 465 0,mp 641]),e 65 D21,(87,K0 [pt 62 0,sV [110],u3 1,i3 0,u3 0,iV 0,iV 0,nS,sl 605 0 1 2 2,bF]),e 214 D0,e 215 Dt,e 227 D22,e 228 Dy,e 465 Dh,e 603 D0,e 604 Do,e 605 D23,e 638 D0,e 639 D19,e 641 Dd] a2
def p2:RowH:=⟨214,⟨70,[pt 63 0],a2,iV 0,b2,642⟩⟩
theorem G2:Gd p2:=G [] Z (by decide) (by decide +kernel)
def a3:List (Nat×LO):=[e 61 D5,e 62 D9,e 63 D1a,e 64 Dz,e 65 Du,e 68 D0,e 69 D2,e 70 D0,e 71 Da]
def b3:List (Nat×LO):=pat [e 62 Db,(63,K0 [pt 62 0,nP,iV 1,iV 1,iV 1000,u3 1,i3 0,u3 0,iV 0,pt 64 0,iV 1,iV 1,iV 0,iV 1,nS,nS,sl 142 0 2 1 1,nS,pt 66 0,mp 72]),e 64 D24,e 65 D1b,e 68 D1c,e 141 D0,e 142 D3,e 301 D1d,e 334 D0,e 335 D10] a3
def p3:RowH:=⟨178,⟨73,[pt 63 0,ag [iV 4,iV 2,iV 0,iV 0,sV [],iV 0,iV 0,nS,nS,sV [],iV 0,iV 0,nS,nS,iV 0,iV 0,nS]],a3,iV 0,b3,337⟩⟩
theorem G3:Gd p3:=G [] Z (by decide) (by decide +kernel)
def a9:List (Nat×LO):=[e 61 D1j,e 62 D6,(63,K0 [pt 62 0,nP,iV 2,iV 2,iV 1000,u3 1,i3 1,u3 0,iV 0,pt 68 0,iV 2,iV 2,iV 0,iV 2,nS,nS,sl 77 0 2 1 1,nS,pt 78 0,mp 65]),e 64 D1k,e 66 D0,e 67 Dq,e 68 D29,e 70 D1l,e 71 D2,e 73 Dv,e 75 Dw,e 76 D0,e 77 D7]
def b9:List (Nat×LO):=pat [e 62 D4,(63,K0 [pt 62 0,nP,iV 2,iV 2,iV 1000,u3 1,i3 1,u3 0,iV 0,pt 68 0,iV 2,iV 2,iV 0,iV 3,nS,nS,sl 147 0 2 1 1,nS,pt 78 0,mp 65]),e 64 D1m,e 68 D2a,e 70 Dp,e 146 D0,e 147 D7,e 303 D0,e 304 Dx,e 305 D1n,e 338 D0,(339,K1 (bL [0,0,0,8,168,199,248,50,40,26,57,197,0,0,0,0,0,0,0,0,0,0,0,4,164,125,234,119,66,173,119,67,1,7,1,1,0,0,0,8,245,184,102,16,166,131,185,245,1,4,1,1,1,2,0,0,0,0,0,4,164,125,235,119,66,173,120,246,1,7,1,2,0,0,0,4,164,125,236,119,66,173,122,169,1,7,1,3]) 338)] a9
def p9:RowH:=⟨178,⟨79,[pt 63 0,ag [iV 7,iV 3,iV 0,iV 0,sV [],iV 0,iV 0,nS,nS,sV [],iV 0,iV 0,nS,nS,iV 0,iV 0,nS]],a9,iV 0,b9,341⟩⟩
theorem G9:Gd p9:=G [] Z (by decide) (by decide +kernel)
def a13:List (Nat×LO):=[e 61 D5,e 62 D6,e 63 D1o,e 64 D11,e 65 Dl,e 68 Df,e 69 D2,e 72 D8,e 73 D0,e 74 D7,e 76 Dm,e 77 D0,e 78 Dq]
def b13:List (Nat×LO):=pat [e 62 D4,(63,K0 [pt 62 0,nP,iV 2,iV 2,iV 1000,u3 1,i3 0,u3 0,iV 0,pt 64 0,iV 2,iV 2,iV 0,iV 2,nS,nS,sl 213 0 2 2 2,nS,pt 66 0,mp 70]),(64,K0 [pt 62 0,sV [110],u3 1,i3 0,u3 0,iV 0,iV 0,nS,sl 372 0 1 4 4,bF]),(65,K0 [sl 406 0 1 92 92,bT,nS]),(68,Fm 372 69),(146,Fm 213 212),(212,K1 [iV 1,nS] 146),(213,K1 [iV 1,nS,iV 3,nS] 146),(372,K1 [sl 67 0 1 4 4,sl 71 0 1 8 8,sl 75 0 1 4 4,sl 371 0 1 8 8] 68),e 405 D0,e 406 D2g] a13
def p13:RowH:=⟨178,⟨79,[pt 63 0,ag [iV 4,iV 3,iV 0,iV 0,sV [],iV 0,iV 0,nS,nS,sV [],iV 0,iV 0,nS,nS,iV 0,iV 0,nS]],a13,iV 0,b13,408⟩⟩
theorem G13:Gd p13:=G [] Z (by decide) (by decide +kernel)
def a16:List (Nat×LO):=[e 61 Dr,e 62 D9,e 64 D28,(65,K0 [pt 62 0,pt 64 0,iV 3,iV 3,iV 1000,u3 1,i3 1,u3 0,iV 0,pt 66 0,iV 3,iV 3,iV 0,iV 1,nS,nS,nS,nS,pt 68 0,mp 71]),e 67 D18,e 69 D0,e 70 Da]
def b16:List (Nat×LO):=pat [e 62 Db,(65,K0 [pt 62 0,pt 64 0,iV 3,iV 3,iV 1000,u3 1,i3 1,u3 0,iV 0,pt 89 0,iV 3,iV 3,iV 0,iV 2,nS,nS,nS,nS,pt 467 0,mp 671]),(67,K0 [sl 669 0 1 52 52,bT,nS]),e 216 D0,e 217 Dt,(229,Fm 635 230),e 230 Dy,e 467 Dh,e 633 D0,e 634 Do,(635,K1 [sl 217 0 1 4 4,sl 634 0 1 4 4] 229),e 668 D0,e 669 D19,e 671 Dd] a16
def p16:RowH:=⟨214,⟨72,[pt 65 0],a16,iV 0,b16,672⟩⟩
theorem G16:Gd p16:=G [] Z (by decide) (by decide +kernel)
def a17:List (Nat×LO):=[e 61 D15,e 62 D9,(64,K0 [pt 62 0,pt 63 0,iV 3,iV 3,iV 1000,u3 1,i3 0,u3 0,iV 0,pt 65 0,iV 3,iV 3,iV 0,iV 1,nS,nS,nS,nS,pt 67 0,mp 73]),(65,K0 [pt 62 0,sV [110],u3 1,i3 0,u3 0,iV 0,iV 0,nS,sl 70 0 1 1 1,bF]),e 66 Du,e 69 D0,e 70 D2,e 71 D0,e 72 Da]
def b17:List (Nat×LO):=pat [e 62 Db,(64,K0 [pt 62 0,pt 63 0,iV 3,iV 3,iV 1000,u3 1,i3 0,u3 0,iV 0,pt 65 0,iV 3,iV 3,iV 0,iV 1,nS,nS,sl 143 0 2 1 1,nS,pt 67 0,mp 73]),(65,K0 [pt 62 0,sV [110],u3 1,i3 0,u3 0,iV 0,iV 0,nS,sl 302 0 1 2 2,bF]),e 66 D1b,e 69 D1c,e 142 D0,e 143 D3,e 302 D1d,e 335 D0,e 336 D10] a17
def p17:RowH:=⟨178,⟨74,[pt 64 0,ag [iV 4,iV 2,iV 0,iV 0,sV [],iV 0,iV 0,nS,nS,sV [],iV 0,iV 0,nS,nS,iV 0,iV 0,nS]],a17,iV 0,b17,338⟩⟩
theorem G17:Gd p17:=G [] Z (by decide) (by decide +kernel)
def a18:List (Nat×LO):=[e 61 D15,e 62 Db,(64,K0 [pt 62 0,pt 63 0,iV 3,iV 3,iV 1000,u3 1,i3 0,u3 0,iV 0,pt 65 0,iV 3,iV 3,iV 0,iV 1,nS,nS,sl 73 0 2 1 1,nS,pt 67 0,mp 71]),(65,K0 [pt 62 0,sV [110],u3 1,i3 0,u3 0,iV 0,iV 0,nS,sl 75 0 1 2 2,bF]),e 66 D1e,e 69 D1f,e 70 D2,e 72 D0,e 73 D3,e 75 D1g,e 76 D0,e 77 D10]
def b18:List (Nat×LO):=pat [e 62 D6,(64,K0 [pt 62 0,pt 63 0,iV 3,iV 3,iV 1000,u3 1,i3 0,u3 0,iV 0,pt 65 0,iV 3,iV 3,iV 0,iV 2,nS,nS,sl 146 0 2 1 1,nS,pt 67 0,mp 71]),(65,K0 [pt 62 0,sV [110],u3 1,i3 0,u3 0,iV 0,iV 0,nS,sl 304 0 1 3 3,bF]),e 66 D1h,e 69 Dp,e 145 D0,e 146 D3,e 304 D1i,e 337 D0,e 338 De] a18
def p18:RowH:=⟨178,⟨78,[pt 64 0,ag [iV 7,iV 2,iV 0,iV 0,sV [],iV 0,iV 0,nS,nS,sV [],iV 0,iV 0,nS,nS,iV 0,iV 0,nS]],a18,iV 0,b18,340⟩⟩
theorem G18:Gd p18:=G [] Z (by decide) (by decide +kernel)
def a26:List (Nat×LO):=[e 61 D1j,e 62 Di,(63,K0 [pt 62 0,nP,iV 2,iV 2,iV 1000,u3 1,i3 1,u3 0,iV 0,pt 68 0,iV 2,iV 2,iV 0,iV 3,nS,nS,sl 81 0 2 2 2,nS,pt 82 0,mp 65]),(64,K0 [sl 67 0 1 108 108,bT,nS]),e 66 D0,e 67 D13,(68,K0 [pt 62 0,sV [110],u3 1,i3 0,u3 0,iV 0,iV 0,nS,sl 79 0 1 5 5,bF]),(70,Fm 79 71),e 71 D2,e 73 Dv,e 75 Dw,(77,K1 [sl 69 0 1 4 4,sl 72 0 1 8 8,sl 74 0 1 4 4,sl 76 0 1 8 8] 70),(79,K1 [sl 69 0 1 4 4,sl 72 0 1 8 8,sl 74 0 1 4 4,sl 76 0 1 8 8,sl 78 0 1 4 4] 70),e 80 D0,e 81 D1x]
def b26:List (Nat×LO):=pat [e 62 D2r,(63,K0 [pt 62 0,nP,iV 2,iV 2,iV 1000,u3 1,i3 1,u3 0,iV 0,pt 68 0,iV 2,iV 2,iV 0,iV 4,nS,nS,sl 178 0 2 2 2,nS,pt 82 0,mp 65]),(64,K0 [sl 390 0 1 124 124,bT,nS]),(68,K0 [pt 62 0,sV [110],u3 1,i3 0,u3 0,iV 0,iV 0,nS,sl 356 0 1 6 6,bF]),(70,Fm 356 71),e 177 D0,e 178 D1x,(356,K1 [sl 69 0 1 4 4,sl 72 0 1 8 8,sl 74 0 1 4 4,sl 76 0 1 8 8,sl 78 0 1 4 4,sl 355 0 1 4 4] 70),e 389 D0,e 390 D2s] a26
def p26:RowH:=⟨178,⟨83,[pt 63 0,ag [iV 7,iV 4,iV 0,iV 0,sV [],iV 0,iV 0,nS,nS,sV [],iV 0,iV 0,nS,nS,iV 0,iV 0,nS]],a26,iV 0,b26,392⟩⟩
theorem G26:Gd p26:=G [] Z (by decide) (by decide +kernel)
def a31:List (Nat×LO):=[e 61 D15,e 62 D4,(64,K0 [pt 62 0,pt 63 0,iV 3,iV 3,iV 1000,u3 1,i3 0,u3 0,iV 0,pt 65 0,iV 3,iV 3,iV 1,iV 2,sl 81 0 7 1 1,sl 87 0 5 1 1,sl 77 0 2 1 1,nS,pt 67 0,mp 71]),(65,K0 [pt 62 0,sV [110],u3 1,i3 0,u3 0,iV 0,iV 0,nS,sl 89 0 1 4 4,bF]),(66,K0 [sl 91 0 1 107 107,bT,nS]),(69,Fm 89 70),e 70 D2,e 73 D8,e 75 D12,e 76 D0,e 77 D3,e 78 D0,e 79 D1,e 80 D0,e 81 Ds,e 82 D0,e 83 D1,e 84 D0,e 85 Dc,e 86 D0,e 87 Dn,(89,K1 [sl 68 0 1 4 4,sl 72 0 1 8 8,sl 74 0 1 4 4,sl 88 0 1 23 23] 69),e 90 D0,e 91 Dg]
def b31:List (Nat×LO):=pat [e 62 Di,(64,K0 [pt 62 0,pt 63 0,iV 3,iV 3,iV 1000,u3 1,i3 0,u3 0,iV 0,pt 65 0,iV 3,iV 3,iV 1,iV 2,sl 497 0 7 1 1,sl 500 0 5 1 1,sl 503 0 2 0 1,nS,pt 67 0,mp 71]),(65,K0 [pt 62 0,sV [110],u3 1,i3 0,u3 0,iV 0,iV 0,nS,sl 721 0 1 5 5,bF]),(66,K0 [sl 755 0 1 123 123,bT,nS]),(69,Fm 721 70)] a31
def p31:RowH:=⟨178,⟨92,[pt 64 0,ag [iV 6,iV 2,iV 0,iV 0,sV [],iV 0,iV 0,nS,nS,sV [],iV 0,iV 0,nS,nS,iV 0,iV 0,nS]],a31,iV 0,b31,757⟩⟩
theorem G31:Gd p31:=G [] Z (by decide) (by decide +kernel)
def a39:List (Nat×LO):=[e 61 Dj,(62,K0 [sl 66 0 4 1 1,mp 61,iV 1]),e 63 D0,e 64 D1,e 65 D0,e 66 Dk,e 67 D0,e 68 D1,e 69 D0,e 70 Ds,e 71 D0,e 72 D1,e 73 D0,e 74 Dc,e 75 D0,e 76 Dn]
def b39:List (Nat×LO):=pat [] a39
def p39:RowH:=⟨179,⟨77,[pt 62 0,sl 76 0 5 1 1,sl 70 0 7 1 1],a39,.tuple ⟨[ag [sV [],iV 0,iV 0,nS,nS,iV 0],bF,iV 0]⟩,b39,1494⟩⟩
theorem G39:Gd p39:=G [] Z (by decide) (by decide +kernel)
end Go.Proofs.YtpckhnmnekinkaaGreatDoor.Q.BenchKnown
