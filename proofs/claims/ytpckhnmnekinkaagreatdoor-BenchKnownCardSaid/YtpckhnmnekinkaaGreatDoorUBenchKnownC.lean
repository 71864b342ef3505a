/- BenchKnown: calls that are written down with what they meet of memory, part C: each reckoned by the evaluator, in the kernel. No conditions. -/
import Derived.Test.YtpckhnmnekinkaaGreatDoorUBenchKnownT
import Derived.Test.YtpckhnmnekinkaaGreatDoorProg
import Derived.KernelRfl
set_option linter.unusedVariables false
set_option maxRecDepth 1000000
namespace Go.Proofs.YtpckhnmnekinkaaGreatDoor.Q.BenchKnown
open Go.RowKit
open Go.Proofs.YtpckhnmnekinkaaGreatDoor.Ev (sV bV iV bL tL sl sx pt mp nS nP nM u3 u6 i3 bT bF ag K0 K1 Fm Row RowGood RowH RowHGood LO putAt)
def a1:List (Nat×LO):=[e 61 Dd,e 62 D17,(63,K0 [pt 62 0,nP,iV 2,iV 2,iV 1000,u3 0,i3 1,u3 0,iV 0,nP,iV 0,iV 0,iV 0,iV 0,nS,nS,nS,nS,nP,nM])]
def b1:List (Nat×LO):=pat [e 61 D1y,e 62 D9,(63,K0 [pt 62 0,nP,iV 2,iV 2,iV 1000,u3 0,i3 1,u3 0,iV 0,pt 81 0,iV 2,iV 2,iV 0,iV 1,nS,nS,nS,nS,pt 210 0,mp 387]),e 81 D1z,e 175 D20,e 350 D0,e 351 D2,e 384 D0,e 385 Da,e 387 Dd] a1
def p1:RowH:=⟨214,⟨64,[pt 63 0],a1,iV 0,b1,388⟩⟩
theorem G1:Gd p1:=G [] Z (by decide) (by decide +kernel)
def a4:List (Nat×LO):=[e 61 D5,e 62 Db,(63,K0 [pt 62 0,nP,iV 1,iV 1,iV 1000,u3 1,i3 0,u3 0,iV 0,pt 64 0,iV 1,iV 1,iV 0,iV 1,nS,nS,sl 72 0 2 1 1,nS,pt 66 0,mp 70]),e 64 D25,e 65 D1e,e 68 D1f,e 69 D2,e 71 D0,e 72 D3,e 74 D1g,e 75 D0,e 76 D10]
def b4:List (Nat×LO):=pat [e 62 D6,(63,K0 [pt 62 0,nP,iV 1,iV 1,iV 1000,u3 1,i3 0,u3 0,iV 0,pt 64 0,iV 1,iV 1,iV 0,iV 2,nS,nS,sl 145 0 2 1 1,nS,pt 66 0,mp 70]),e 64 D26,e 65 D1h,e 68 Dp,e 144 D0,e 145 D3,e 303 D1i,e 336 D0,e 337 De] a4
def p4:RowH:=⟨178,⟨77,[pt 63 0,ag [iV 7,iV 2,iV 0,iV 0,sV [],iV 0,iV 0,nS,nS,sV [],iV 0,iV 0,nS,nS,iV 0,iV 0,nS]],a4,iV 0,b4,339⟩⟩
theorem G4:Gd p4:=G [] Z (by decide) (by decide +kernel)
def a5:List (Nat×LO):=[e 61 D5,e 62 D9,(63,K0 [pt 62 0,nP,iV 2,iV 2,iV 1000,u3 1,i3 1,u3 0,iV 0,pt 64 0,iV 2,iV 2,iV 0,iV 1,nS,nS,nS,nS,pt 66 0,mp 69]),e 65 D18,e 67 D0,e 68 Da]
def b5:List (Nat×LO):=pat [e 62 Db,(63,K0 [pt 62 0,nP,iV 2,iV 2,iV 1000,u3 1,i3 1,u3 0,iV 0,pt 87 0,iV 2,iV 2,iV 0,iV 2,nS,nS,nS,nS,pt 465 0,mp 641]),e 65 D21,e 214 D0,e 215 Dt,e 227 D22,e 228 Dy,e 465 Dh,e 603 D0,e 604 Do,e 605 D23,e 638 D0,e 639 D19,e 641 Dd] a5
def p5:RowH:=⟨214,⟨70,[pt 63 0],a5,iV 0,b5,642⟩⟩
theorem G5:Gd p5:=G [] Z (by decide) (by decide +kernel)
def a8:List (Nat×LO):=[e 61 Dd,e 62 D17,e 64 D28,(65,K0 [pt 62 0,pt 64 0,iV 3,iV 3,iV 1000,u3 0,i3 1,u3 0,iV 0,nP,iV 0,iV 0,iV 0,iV 0,nS,nS,nS,nS,nP,nM])]
def b8:List (Nat×LO):=pat [(61,.map [⟨sV [110,46,108],pt 177 0,0⟩] 1),e 62 D9,(65,K0 [pt 62 0,pt 64 0,iV 3,iV 3,iV 1000,u3 0,i3 1,u3 0,iV 0,pt 83 0,iV 3,iV 3,iV 0,iV 1,nS,nS,nS,nS,pt 212 0,mp 417]),(83,K0 [pt 62 0,sV [110],u3 1,i3 0,u3 0,iV 0,iV 0,nS,sl 381 0 1 1 1,bF]),(177,K0 [sl 415 0 1 36 36,bT,nS]),e 212 Dh,e 380 D0,e 381 D2,e 414 D0,e 415 Da,e 417 Dd] a8
def p8:RowH:=⟨214,⟨66,[pt 65 0],a8,iV 0,b8,418⟩⟩
theorem G8:Gd p8:=G [] Z (by decide) (by decide +kernel)
def a10:List (Nat×LO):=[e 61 D5,e 62 D6,e 63 D1o,e 64 D11,e 65 Dl,e 68 Df,e 69 D2,e 72 D8,e 73 D0,e 74 D7,e 76 Dm,e 77 D0,e 78 Dq]
def b10:List (Nat×LO):=pat [e 62 D4,(63,K0 [pt 62 0,nP,iV 2,iV 2,iV 1000,u3 1,i3 0,u3 0,iV 0,pt 64 0,iV 2,iV 2,iV 0,iV 2,nS,nS,sl 147 0 2 0 1,nS,pt 66 0,mp 70]),e 64 D2b,e 65 D2c,e 68 D2d,e 146 D0,(147,K1 [iV 0,nS] 146),e 314 D0,(315,K1 (bL [1,6,1,1]) 314),(316,K1 [sl 67 0 1 4 4,sl 71 0 1 8 8,sl 75 0 1 4 4,sl 315 0 1 4 4] 68),e 349 D0,(350,K1 (bL [0,0,0,8,168,199,248,50,40,26,57,197,0,0,0,0,0,0,0,0,0,0,0,4,164,125,234,119,66,173,119,67,1,7,1,1,0,0,0,8,245,184,102,16,166,131,185,245,1,4,1,1,1,2,0,0,0,0,0,4,164,125,235,119,66,173,120,246,1,7,1,2,0,0,0,4,155,219,57,119,61,203,59,132,1,6,1,1]) 349)] a10
def p10:RowH:=⟨178,⟨79,[pt 63 0,ag [iV 6,iV 1,iV 0,iV 0,sV [],iV 0,iV 0,nS,nS,sV [],iV 0,iV 0,nS,nS,iV 0,iV 0,nS]],a10,iV 0,b10,352⟩⟩
theorem G10:Gd p10:=G [] Z (by decide) (by decide +kernel)
def a14:List (Nat×LO):=[e 61 D5,e 62 D4,(63,K0 [pt 62 0,nP,iV 2,iV 2,iV 1000,u3 1,i3 0,u3 0,iV 0,pt 64 0,iV 2,iV 2,iV 0,iV 2,nS,nS,sl 77 0 2 2 2,nS,pt 66 0,mp 70]),(64,K0 [pt 62 0,sV [110],u3 1,i3 0,u3 0,iV 0,iV 0,nS,sl 79 0 1 4 4,bF]),(65,K0 [sl 81 0 1 92 92,bT,nS]),e 68 D2h,e 69 D2,e 72 D8,e 74 D12,(75,Fm 77 76),e 76 D7,(77,K1 [iV 1,nS,iV 3,nS] 75),(79,K1 [sl 67 0 1 4 4,sl 71 0 1 8 8,sl 73 0 1 4 4,sl 78 0 1 8 8] 68),e 80 D0,e 81 D2g]
def b14:List (Nat×LO):=pat [e 62 Di,(63,K0 [pt 62 0,nP,iV 2,iV 2,iV 1000,u3 1,i3 0,u3 0,iV 0,pt 64 0,iV 2,iV 2,iV 0,iV 3,nS,nS,sl 177 0 2 2 2,nS,pt 66 0,mp 70]),(64,K0 [pt 62 0,sV [110],u3 1,i3 0,u3 0,iV 0,iV 0,nS,sl 346 0 1 5 5,bF]),(65,K0 [sl 380 0 1 108 108,bT,nS]),(68,Fm 346 69),e 379 D0,e 380 D13] a14
def p14:RowH:=⟨178,⟨82,[pt 63 0,ag [iV 7,iV 3,iV 0,iV 0,sV [],iV 0,iV 0,nS,nS,sV [],iV 0,iV 0,nS,nS,iV 0,iV 0,nS]],a14,iV 0,b14,382⟩⟩
theorem G14:Gd p14:=G [] Z (by decide) (by decide +kernel)
def a19:List (Nat×LO):=[e 61 D5,e 62 D6,(64,K0 [pt 62 0,pt 63 0,iV 3,iV 3,iV 1000,u3 1,i3 1,u3 0,iV 0,pt 69 0,iV 3,iV 3,iV 0,iV 2,nS,nS,sl 78 0 2 1 1,nS,pt 79 0,mp 66]),e 65 D1k,e 67 D0,e 68 De,(69,K0 [pt 62 0,sV [110],u3 1,i3 0,u3 0,iV 0,iV 0,nS,sl 76 0 1 3 3,bF]),e 71 D1l,e 72 D2,e 74 Dv,e 76 Dw,e 77 D0,e 78 D3]
def b19:List (Nat×LO):=pat [e 62 D4,(64,K0 [pt 62 0,pt 63 0,iV 3,iV 3,iV 1000,u3 1,i3 1,u3 0,iV 0,pt 69 0,iV 3,iV 3,iV 0,iV 3,nS,nS,sl 148 0 2 1 1,nS,pt 79 0,mp 66]),e 65 D1m,(69,K0 [pt 62 0,sV [110],u3 1,i3 0,u3 0,iV 0,iV 0,nS,sl 306 0 1 4 4,bF]),e 71 Dp,e 147 D0,e 148 D3,e 169 D2k,e 304 D0,e 305 Dx,e 306 D1n,e 339 D0,e 340 D1p] a19
def p19:RowH:=⟨178,⟨80,[pt 64 0,ag [iV 7,iV 3,iV 0,iV 0,sV [],iV 0,iV 0,nS,nS,sV [],iV 0,iV 0,nS,nS,iV 0,iV 0,nS]],a19,iV 0,b19,342⟩⟩
theorem G19:Gd p19:=G [] Z (by decide) (by decide +kernel)
def a24:List (Nat×LO):=[e 61 D5,e 62 D4,(64,K0 [pt 62 0,pt 63 0,iV 3,iV 3,iV 1000,u3 1,i3 1,u3 0,iV 0,pt 69 0,iV 3,iV 3,iV 1,iV 2,sl 84 0 7 1 1,sl 90 0 5 1 1,sl 80 0 2 1 1,nS,pt 91 0,mp 66]),(65,K0 [sl 68 0 1 107 107,bT,nS]),e 67 D0,e 68 Dg,(69,K0 [pt 62 0,sV [110],u3 1,i3 0,u3 0,iV 0,iV 0,nS,sl 78 0 1 4 4,bF]),e 71 D2p,e 72 D2,e 74 Dv,e 76 Dw,(78,K1 [sl 70 0 1 4 4,sl 73 0 1 8 8,sl 75 0 1 4 4,sl 77 0 1 23 23] 71),e 79 D0,e 80 D3,e 81 D0,e 82 D1,e 83 D0,e 84 Ds,e 85 D0,e 86 D1,e 87 D0,e 88 Dc,e 89 D0,e 90 Dn]
def b24:List (Nat×LO):=pat [e 62 Di,(64,K0 [pt 62 0,pt 63 0,iV 3,iV 3,iV 1000,u3 1,i3 1,u3 0,iV 0,pt 69 0,iV 3,iV 3,iV 1,iV 3,sl 497 0 7 1 1,sl 500 0 5 1 1,sl 503 0 2 1 1,nS,pt 91 0,mp 66]),(65,K0 [sl 744 0 1 123 123,bT,nS]),(69,K0 [pt 62 0,sV [110],u3 1,i3 0,u3 0,iV 0,iV 0,nS,sl 710 0 1 5 5,bF]),(71,Fm 710 72),e 496 D0,(497,K1 [iV 3,iV 1,sV [102],iV 1,iV 0,sl 526 0 1 1 1,nS] 496),e 499 D0,(500,K1 [sV [102],iV 1,iV 0,sl 549 0 1 1 1,sl 552 0 3 1 1] 499),e 502 D0,e 503 D3,e 525 D0,e 526 D1,e 548 D0,e 549 D1,e 551 D0,e 552 Dc,e 708 D0,e 709 Dx,(710,K1 [sl 70 0 1 4 4,sl 73 0 1 8 8,sl 75 0 1 4 4,sl 77 0 1 23 23,sl 709 0 1 4 4] 71),e 743 D0,(744,K1 (bL [0,0,0,8,168,199,248,50,40,26,57,197,0,0,0,0,0,0,0,0,0,0,0,4,164,125,234,119,66,173,119,67,1,7,1,1,0,0,0,8,134,110,62,213,105,40,219,196,1,4,1,2,1,2,0,0,0,0,0,4,164,125,235,119,66,173,120,246,1,7,1,2,0,0,0,23,47,169,200,122,16,82,35,190,1,1,1,19,1,3,1,1,1,1,102,1,6,1,1,0,1,1,7,1,2,0,0,0,0,0,4,164,125,236,119,66,173,122,169,1,7,1,3]) 743)] a24
def p24:RowH:=⟨178,⟨92,[pt 64 0,ag [iV 7,iV 3,iV 0,iV 0,sV [],iV 0,iV 0,nS,nS,sV [],iV 0,iV 0,nS,nS,iV 0,iV 0,nS]],a24,iV 0,b24,746⟩⟩
theorem G24:Gd p24:=G [] Z (by decide) (by decide +kernel)
def a34:List (Nat×LO):=[e 61 D5,e 62 D9,e 63 D1a,e 64 Dz,e 65 Du,e 68 D0,e 69 D2,e 70 D0,e 71 Da]
def b34:List (Nat×LO):=pat [e 62 Db,(64,K0 [pt 62 0,sV [110],u3 1,i3 0,u3 0,iV 0,iV 0,nS,sl 257 0 1 2 2,bF]),(65,K0 [sl 291 0 1 51 51,bT,nS]),(68,Fm 257 69)] a34
def p34:RowH:=⟨178,⟨73,[pt 63 0,ag [iV 8,iV 0,iV 0,iV 0,sV [],iV 0,iV 0,nS,nS,sV [],iV 0,iV 0,nS,nS,iV 0,iV 0,nS]],a34,iV 0,b34,293⟩⟩
theorem G34:Gd p34:=G [] Z (by decide) (by decide +kernel)
def a35:List (Nat×LO):=[e 61 D5,e 62 D9,e 63 D1a,e 64 Dz,e 65 Du,e 68 D0,e 69 D2,e 70 D0,e 71 Da]
def b35:List (Nat×LO):=pat [e 62 Db,(63,K0 [pt 62 0,nP,iV 1,iV 1,iV 1000,u3 1,i3 0,u3 0,iV 0,pt 64 0,iV 1,iV 1,iV 1,iV 1,sl 392 0 7 1 1,nS,nS,nS,pt 66 0,mp 72]),(64,K0 [pt 62 0,sV [110],u3 1,i3 0,u3 0,iV 0,iV 0,nS,sl 658 0 1 2 2,bF]),(65,K0 [sl 692 0 1 69 69,bT,nS]),(68,Fm 658 69),e 391 D0,(392,K1 [iV 1,iV 1,sV [103],iV 2,iV 0,nS,nS] 391)] a35
def p35:RowH:=⟨178,⟨73,[pt 63 0,ag [iV 1,iV 0,iV 1,iV 1,sV [103],iV 2,iV 0,nS,nS,sV [],iV 0,iV 0,nS,nS,iV 0,iV 0,nS]],a35,iV 0,b35,694⟩⟩
theorem G35:Gd p35:=G [] Z (by decide) (by decide +kernel)
end Go.Proofs.YtpckhnmnekinkaaGreatDoor.Q.BenchKnown
