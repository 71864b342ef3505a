/- awakeS: calls that are written down with what they meet of memory, part H: each reckoned by the evaluator, in the kernel. No conditions. -/
import Derived.Test.YtpaaopmmmfjkhaaGreatDoorUawakeST
import Derived.Test.YtpaaopmmmfjkhaaGreatDoorProg
import Derived.KernelRfl
set_option linter.unusedVariables false
set_option maxRecDepth 1000000
namespace Go.Proofs.YtpaaopmmmfjkhaaGreatDoor.Q.awakeS
open Go.RowKit
open Go.Proofs.YtpaaopmmmfjkhaaGreatDoor.Ev (sV bV iV bL tL sl sx pt mp nS nP nM u3 u6 i3 bT bF ag K0 K1 Fm Row RowGood RowH RowHGood LO putAt)
def a3:List (Nat×LO):=[e 61 D11,e 62 D3q,(63,K0 [pt 62 0,nP,iV 1,iV 1,iV 1000,u3 1,i3 0,u3 0,iV 0,pt 64 0,iV 1,iV 1,iV 0,iV 1,nS,nS,nS,nS,pt 66 0,mp 72]),(64,K0 [pt 62 0,sV [110],u3 1,i3 0,u3 0,iV 0,iV 0,nS,sl 69 0 1 1 1,bF]),e 65 D8l,e 68 D0,e 69 D3,e 70 D0,e 71 D3r]
def b3:List (Nat×LO):=[e 62 D3s,(63,K0 [pt 62 0,nP,iV 1,iV 1,iV 1000,u3 1,i3 0,u3 0,iV 0,pt 64 0,iV 1,iV 1,iV 0,iV 1,nS,nS,sl 142 0 2 1 1,nS,pt 66 0,mp 72]),(64,K0 [pt 62 0,sV [110],u3 1,i3 0,u3 0,iV 0,iV 0,nS,sl 295 0 1 2 2,bF]),e 65 D8m,e 68 D8n,e 141 D0,e 142 D2s,e 295 D8o,e 328 D0,e 329 Dbc]
def p3:RowH:=⟨239,⟨73,[pt 63 0,ag [iV 4,iV 2,iV 0,iV 0,sV [],iV 0,iV 0,nS,nS,sV [],iV 0,iV 0,nS,nS,iV 0,iV 0,nS]],a3,iV 0,b3,331⟩⟩
theorem G3:Gd p3:=G [] Z (by decide) (by decide +kernel)
def a30:List (Nat×LO):=[e 61 Dm,e 62 Dz,e 63 D6s,e 64 D6t,e 65 D6u,e 67 D3v,e 68 D3,e 70 D5,e 72 D6,e 74 Da,e 76 Db,e 78 D0,e 79 Dh,e 81 D6v,e 82 D0,e 83 D3c]
def b30:List (Nat×LO):=[e 62 D1f,e 63 Dc8,e 64 Dc9,e 65 Dca,e 67 Dcb,e 179 D0,e 180 Dcd,e 352 D0,e 353 D4m,e 354 Dcc,e 387 D0,(388,K1 (bL [0,0,0,8,168,199,248,50,40,26,57,197,0,0,0,0,0,0,0,0,0,0,0,4,164,125,234,119,66,173,119,67,1,7,1,1,0,0,0,8,134,110,62,213,105,40,219,196,1,4,1,2,1,2,0,0,0,0,0,4,164,125,235,119,66,173,120,246,1,7,1,2,0,0,0,8,185,180,179,187,152,68,234,131,1,4,1,3,1,2,0,0,0,0,0,4,164,125,236,119,66,173,122,169,1,7,1,3,0,0,0,4,164,125,237,119,66,173,124,92,1,7,1,4,0,0,0,4,155,219,59,119,61,203,62,234,1,6,1,3]) 387)]
def p30:RowH:=⟨239,⟨85,[pt 64 0,ag [iV 6,iV 3,iV 0,iV 0,sV [],iV 0,iV 0,nS,nS,sV [],iV 0,iV 0,nS,nS,iV 0,iV 0,nS]],a30,iV 0,b30,390⟩⟩
theorem G30:Gd p30:=G [] Z (by decide) (by decide +kernel)
def a52:List (Nat×LO):=[e 61 D14,e 62 Do,e 64 D5j,e 65 D0,e 66 Dr,(67,K0 [pt 62 0,pt 63 0,iV 3,iV 3,iV 1000,u3 0,i3 1,u3 0,iV 0,pt 68 0,iV 3,iV 3,iV 0,iV 2,nS,nS,sl 77 0 2 1 1,nS,pt 78 0,nM]),e 68 D8u,e 70 D4j,e 71 D3,e 73 D5,e 75 D6,e 76 D0,e 77 D4]
def b52:List (Nat×LO):=[e 62 Dq,e 64 D5w,(67,K0 [pt 62 0,pt 63 0,iV 3,iV 3,iV 1000,u3 0,i3 1,u3 0,iV 0,pt 68 0,iV 3,iV 3,iV 0,iV 3,nS,nS,sl 147 0 2 1 1,nS,pt 78 0,nM]),e 68 D8v,e 70 D46,e 146 D0,e 147 D4,e 297 D0,e 298 D9,e 299 D5x,e 332 D0,e 333 D25]
def p52:RowH:=⟨239,⟨79,[pt 67 0,ag [iV 7,iV 3,iV 0,iV 0,sV [],iV 0,iV 0,nS,nS,sV [],iV 0,iV 0,nS,nS,iV 0,iV 0,nS]],a52,iV 0,b52,335⟩⟩
theorem G52:Gd p52:=G [] Z (by decide) (by decide +kernel)
def a55:List (Nat×LO):=[e 61 D14,e 62 Dq,e 64 D70,e 65 Ddq,e 66 D71,e 68 D5e,e 69 D3,e 71 D5,e 73 D6,e 75 D0,e 76 D4,e 78 D72,e 79 D0,e 80 D25]
def b55:List (Nat×LO):=[e 62 Di,e 64 Dd8,(65,K0 [pt 62 0,pt 63 0,iV 3,iV 3,iV 1000,u3 1,i3 0,u3 0,iV 0,pt 66 0,iV 3,iV 3,iV 0,iV 3,nS,nS,sl 150 0 2 0 1,nS,pt 74 0,mp 81]),e 66 Dd9,e 68 Dda,e 149 D0,e 150 D4k,e 311 D0,e 312 D5k,e 313 Ddb,e 346 D0,e 347 Ddc]
def p55:RowH:=⟨239,⟨82,[pt 65 0,ag [iV 6,iV 1,iV 0,iV 0,sV [],iV 0,iV 0,nS,nS,sV [],iV 0,iV 0,nS,nS,iV 0,iV 0,nS]],a55,iV 0,b55,349⟩⟩
theorem G55:Gd p55:=G [] Z (by decide) (by decide +kernel)
def a69:List (Nat×LO):=[e 61 D11,e 62 Dq,(64,K0 [pt 62 0,pt 63 0,iV 2,iV 3,iV 1000,u3 1,i3 1,u3 0,iV 0,pt 69 0,iV 2,iV 3,iV 1,iV 2,sl 84 0 7 1 1,sl 90 0 5 1 1,sl 80 0 2 1 1,nS,pt 91 0,mp 66]),(65,K0 [sl 68 0 1 107 107,bT,nS]),e 67 D0,e 68 D1h,e 69 D96,e 71 D6y,e 72 D3,e 74 D5,e 76 D6,e 78 D1i,e 79 D0,e 80 D4,e 81 D0,e 82 D1,e 83 D0,e 84 D1o,e 85 D0,e 86 D1,e 87 D0,e 88 D2,e 89 D0,e 90 D1b]
def b69:List (Nat×LO):=[e 62 Di,(64,K0 [pt 62 0,pt 63 0,iV 2,iV 3,iV 1000,u3 1,i3 1,u3 0,iV 0,pt 69 0,iV 2,iV 3,iV 1,iV 3,sl 497 0 7 1 1,sl 500 0 5 1 1,sl 503 0 2 1 1,nS,pt 91 0,mp 66]),e 65 Ddw,(69,K0 [pt 62 0,sV [110],u3 1,i3 0,u3 0,iV 0,iV 0,nS,sl 704 0 1 5 5,bF]),e 71 Ddx,e 496 D0,e 497 D1c,e 499 D0,e 500 D1d,e 502 D0,e 503 D4,e 525 D0,e 526 D1,e 548 D0,e 549 D1,e 551 D0,e 552 D2,e 702 D0,e 703 D9,e 704 Ddy,e 737 D0,e 738 D4q]
def p69:RowH:=⟨239,⟨92,[pt 64 0,ag [iV 7,iV 3,iV 0,iV 0,sV [],iV 0,iV 0,nS,nS,sV [],iV 0,iV 0,nS,nS,iV 0,iV 0,nS]],a69,iV 0,b69,740⟩⟩
theorem G69:Gd p69:=G [] Z (by decide) (by decide +kernel)
def a76:List (Nat×LO):=[e 61 D11,e 62 Di,e 63 Dbz,e 64 Dc0,e 65 Dc1,e 68 D24,e 69 D3,e 72 Dy,e 74 D1x,e 76 D3w,e 77 D0,e 78 Dh,e 80 Dc2,e 81 D0,e 82 D2v]
def b76:List (Nat×LO):=[e 62 Dz,e 63 Dc3,(64,K0 [pt 62 0,sV [110],u3 1,i3 0,u3 0,iV 0,iV 0,nS,sl 353 0 1 6 6,bF]),(65,K0 [sl 387 0 1 125 125,bT,nS]),(68,Fm 353 69),e 177 D0,e 178 Dh,(353,K1 [sl 67 0 1 4 4,sl 71 0 1 8 8,sl 73 0 1 4 4,sl 75 0 1 8 8,sl 79 0 1 4 4,sl 352 0 1 5 5] 68),e 386 D0,e 387 D2z]
def p76:RowH:=⟨239,⟨83,[pt 63 0,ag [iV 8,iV 10000,iV 0,iV 0,sV [],iV 0,iV 0,nS,nS,sV [],iV 0,iV 0,nS,nS,iV 0,iV 0,nS]],a76,iV 0,b76,389⟩⟩
theorem G76:Gd p76:=G [] Z (by decide) (by decide +kernel)
def a94:List (Nat×LO):=[e 61 D0,e 62 Dc,e 63 D4o,e 64 D3,e 65 D0,e 66 D1n,e 67 Dy,e 68 D0,e 69 Dg,e 70 D2m,e 71 D0,e 72 D5i,e 73 D4p,e 74 D0,e 75 D9,(76,K1 [sl 62 0 1 4 4,sl 66 0 1 8 8,sl 69 0 1 4 4,sl 72 0 1 23 23,sl 75 0 1 4 4] 63)]
def b94:List (Nat×LO):=[e 3464 D0,e 3465 D1c,e 3467 D0,e 3468 D1d,e 3470 D0,e 3471 D4,e 3493 D0,e 3494 D1,e 3516 D0,e 3517 D1,e 3519 D0,e 3520 D2]
def p94:RowH:=⟨107,⟨77,[ag [iV 2,iV 3,iV 0,iV 0,nS,nS,nS,nS],sl 76 0 1 5 5],a94,.tuple ⟨[ag [iV 2,iV 3,iV 1,iV 3,sl 3465 0 7 1 1,sl 3468 0 5 1 1,sl 3471 0 2 1 1,nS],iV 0]⟩,b94,3553⟩⟩
theorem G94:Gd p94:=G [] Z (by decide) (by decide +kernel)
def a108:List (Nat×LO):=[e 61 D11,e 62 Dz,e 63 De3,e 64 De4,e 65 De5,e 68 D3v,e 69 D3,e 72 Dy,e 74 D1x,e 76 D3w,e 78 D4u,e 79 D0,e 80 Dh,e 82 De6,e 83 D0,e 84 D2z,e 85 D0,e 86 D1]
def b108:List (Nat×LO):=[e 62 D1f,(63,K0 [pt 62 0,nP,iV 1,iV 1,iV 1000,u3 1,i3 0,u3 0,iV 0,pt 64 0,iV 1,iV 1,iV 0,iV 3,sl 532 0 7 1 1,nS,sl 182 0 2 2 2,nS,pt 66 0,mp 70]),(64,K0 [pt 62 0,sV [110],u3 1,i3 0,u3 0,iV 0,iV 0,nS,sl 815 0 1 7 7,bF]),(65,K0 [sl 849 0 1 160 160,bT,nS]),e 68 Dfe,e 181 D0,e 182 Dh,e 528 D0,e 529 D1,e 531 D0,e 532 D5h,(815,K1 [sl 67 0 1 4 4,sl 71 0 1 8 8,sl 73 0 1 4 4,sl 75 0 1 8 8,sl 77 0 1 4 4,sl 81 0 1 5 5,sl 814 0 1 23 23] 68),e 848 D0,e 849 Dff]
def p108:RowH:=⟨239,⟨87,[pt 63 0,ag [iV 2,iV 0,iV 2,iV 1,sV [102],iV 1,iV 0,sl 86 0 1 1 1,nS,sV [],iV 0,iV 0,nS,nS,iV 0,iV 0,nS]],a108,iV 0,b108,851⟩⟩
theorem G108:Gd p108:=G [] Z (by decide) (by decide +kernel)
def a129:List (Nat×LO):=[e 61 Dm,e 62 D1e,(63,K0 [sl 65 0 1 213 213,bT,nS]),e 64 D0,e 65 D27,e 66 Dg7,e 68 D33,e 69 D3,e 71 D5,e 73 D6,e 75 Da,e 77 Db,e 79 Dj,e 81 Ds,e 83 Dt,e 85 Du,e 87 D2p,e 88 D0,e 89 D1u]
def b129:List (Nat×LO):=[e 62 D21,(63,K0 [sl 65 0 1 213 213,bT,sl 171 0 1 1 1]),e 66 Dg8,e 68 D7s,e 167 D0,e 168 D6k,e 170 D0,e 171 D5p,e 184 D0,e 185 D1u,(186,K1 [sl 67 0 1 4 4,sl 70 0 1 8 8,sl 72 0 1 4 4,sl 74 0 1 8 8,sl 76 0 1 4 4,sl 78 0 1 5 5,sl 80 0 1 23 23,sl 82 0 1 8 8,sl 84 0 1 5 5,sl 86 0 1 4 4,sl 185 0 1 4 4] 68)]
def p129:RowH:=⟨348,⟨90,[pt 66 0,sl 89 0 1 4 4],a129,iV 0,b129,187⟩⟩
theorem G129:Gd p129:=G [] Z (by decide) (by decide +kernel)
def a139:List (Nat×LO):=[e 61 Dm,e 62 D3o,e 63 Dgq,e 64 D5t,e 66 D4g,e 67 D3,e 69 D5,e 71 D6,e 73 Da,e 75 Db,e 77 Dj,e 79 Ds,e 81 Dt,e 83 Du,e 85 D2p,e 87 D81,e 88 D0,e 89 Dgo,e 90 D0,e 91 D6k,e 92 D0,e 93 D34,e 95 Dgr]
def b139:List (Nat×LO):=[e 64 D5u,e 66 D4h,e 139 D2b,e 140 Dgs,e 147 D7t,e 148 Dgt,e 243 D0,e 244 Dc,e 272 D0,e 273 Dk,e 301 D0,e 302 Dg,e 330 D0,e 331 Dn,e 359 D0,e 360 D9,e 388 D0,e 389 D7,e 417 D0,e 418 Dv,e 446 D0,e 447 D10,e 475 D0,e 476 D7,e 504 D0,e 505 Dl,e 533 D0,e 534 Dk,e 562 D0,e 563 D1u,e 575 Dgu]
def p139:RowH:=⟨552,⟨96,[pt 64 0],a139,.tuple ⟨[]⟩,b139,583⟩⟩
theorem G139:Gd p139:=G [] Z (by decide) (by decide +kernel)
def a142:List (Nat×LO):=[e 61 Dm,e 62 D21,e 63 D7y,e 64 D7z,e 66 D39,e 67 D3,e 69 D5,e 71 D6,e 73 Da,e 75 Db,e 77 Dj,e 79 Ds,e 81 Dt,e 83 Du,e 85 D2p,e 86 D0,e 87 D27,e 88 D0,e 89 Dah,e 90 D0,e 91 D5s,e 93 Dgl]
def b142:List (Nat×LO):=[e 64 D80,e 66 D5r,e 241 D0,e 242 Dc,e 270 D0,e 271 Dk,e 299 D0,e 300 Dg,e 328 D0,e 357 D0,e 358 D9,e 415 D0,e 416 Dv,e 444 D0,e 445 D10,e 470 D7r,e 471 D2y,e 473 D0,e 474 D7,e 531 D0,e 532 Dn,e 544 Dgm]
def p142:RowH:=⟨552,⟨94,[pt 64 0],a142,.tuple ⟨[]⟩,b142,552⟩⟩
theorem G142:Gd p142:=G [] Z (by decide) (by decide +kernel)
def a156:List (Nat×LO):=[e 61 D0,e 62 Dc,e 63 D4o,e 64 D3,e 65 D0,e 66 D1n,e 67 Dy,e 68 D0,e 69 Dg,e 70 D2m,e 71 D0,e 72 D5i,e 73 D4p,e 74 D0,e 75 D43,e 76 D6m]
def b156:List (Nat×LO):=[e 3663 D0,e 3664 D1c,e 3666 D0,e 3667 D1d,e 3669 D0,e 3670 D6l,e 3692 D0,e 3693 D1,e 3715 D0,e 3716 D1,e 3718 D0,e 3719 D2,e 3883 D0,e 3884 D2]
def p156:RowH:=⟨107,⟨77,[ag [iV 2,iV 3,iV 0,iV 0,nS,nS,nS,nS],sl 76 0 1 5 5],a156,.tuple ⟨[ag [iV 2,iV 3,iV 1,iV 2,sl 3664 0 7 1 1,sl 3667 0 5 1 1,sl 3670 0 2 1 1,nS],iV 0]⟩,b156,3910⟩⟩
theorem G156:Gd p156:=G [] Z (by decide) (by decide +kernel)
def a180:List (Nat×LO):=[e 61 D0,e 62 Dc,e 63 D4y,e 64 D3,e 65 D0,e 66 D1n,e 67 Dy,e 68 D0,e 69 Dg,e 70 D2m,e 71 D0,e 72 Dv,e 73 D4p,e 74 D0,e 75 D43,e 76 D6m,e 77 D0,e 78 D5a,e 79 Dhu]
def b180:List (Nat×LO):=[e 1461 D5o,e 1462 D0,e 4546 D0,e 4547 D13,e 4549 D0,e 4550 D59,e 4572 D0,e 4573 D1,e 4588 D0,e 4589 D2,e 4684 D0,e 4685 D1,e 4687 D0,e 4688 D2,e 4690 D0,e 4691 D3f]
def p180:RowH:=⟨107,⟨80,[ag [iV 3,iV 3,iV 0,iV 0,nS,nS,nS,nS],sl 79 0 1 6 6],a180,.tuple ⟨[ag [iV 3,iV 3,iV 0,iV 2,sl 4547 0 7 1 1,sl 4691 0 5 1 1,sl 4550 0 2 1 1,nS],iV 0]⟩,b180,4848⟩⟩
theorem G180:Gd p180:=G [] Z (by decide) (by decide +kernel)
def a208:List (Nat×LO):=[e 61 Dm,e 62 D3o,e 63 D85,e 64 D5t,e 66 D4g,e 67 D3,e 69 D5,e 71 D6,e 73 Da,e 75 Db,e 77 Dj,e 79 Ds,e 81 Dt,e 83 Du,e 85 D1l,e 87 D3b,e 88 D0,e 89 D2q,e 90 D0,e 91 Dah,e 92 D0,e 93 D5s,e 95 Diz]
def b208:List (Nat×LO):=[e 64 D5u,e 66 D4h,e 243 D0,e 244 Dc,e 272 D0,e 273 Dk,e 301 D0,e 302 Dg,e 330 D0,e 331 Dn,e 359 D0,e 360 D9,e 388 D0,e 389 D7,e 417 D0,e 418 Dv,e 446 D0,e 447 D10,e 472 D7r,e 473 D2y,e 475 D0,e 476 D7,(488,K1 [sl 65 0 1 4 4,sl 68 0 1 8 8,sl 70 0 1 4 4,sl 72 0 1 8 8,sl 74 0 1 4 4,sl 76 0 1 5 5,sl 78 0 1 23 23,sl 80 0 1 8 8,sl 82 0 1 5 5,sl 84 0 1 5 5,sl 86 0 1 4 4,sl 94 0 1 8 8,sl 244 0 1 4 4,sl 273 0 1 8 8,sl 302 0 1 4 4,sl 331 0 1 8 8,sl 360 0 1 4 4,sl 389 0 1 5 5,sl 418 0 1 23 23,sl 447 0 1 8 8,sl 476 0 1 5 5] 66),e 504 D0,e 505 D7,e 533 D0,e 534 Dl,e 562 D0,e 563 Dn,e 575 Dj0]
def p208:RowH:=⟨552,⟨96,[pt 64 0],a208,.tuple ⟨[]⟩,b208,583⟩⟩
theorem G208:Gd p208:=G [] Z (by decide) (by decide +kernel)
def a219:List (Nat×LO):=[e 61 D14,e 62 D1f,(64,K0 [sl 97 0 1 163 163,bT,nS]),(65,K0 [pt 62 0,pt 63 0,iV 2,iV 3,iV 1000,u3 1,i3 0,u3 0,iV 0,pt 66 0,iV 2,iV 3,iV 1,iV 3,sl 83 0 7 1 1,sl 85 0 5 1 1,sl 87 0 2 1 1,nS,pt 78 0,mp 81]),(66,K0 [pt 62 0,sV [110],u3 1,i3 0,u3 0,iV 0,iV 0,nS,sl 95 0 1 7 7,bF]),e 68 D39,e 69 D3,e 71 D5,e 73 D6,e 75 D1i,e 77 D22,(80,K1 [sl 67 0 1 4 4,sl 70 0 1 8 8,sl 72 0 1 4 4,sl 74 0 1 23 23,sl 76 0 1 8 8,sl 79 0 1 4 4] 68),e 82 D0,e 83 D18,e 84 D0,e 85 D19,e 86 D0,e 87 D4,e 88 D0,e 89 D1,e 90 D0,e 91 D1,e 92 D0,e 93 D2,(95,K1 [sl 67 0 1 4 4,sl 70 0 1 8 8,sl 72 0 1 4 4,sl 74 0 1 23 23,sl 76 0 1 8 8,sl 79 0 1 4 4,sl 94 0 1 8 8] 68),e 96 D0,e 97 Djm]
def b219:List (Nat×LO):=[e 62 D1a,(64,K0 [sl 744 0 1 179 179,bT,nS]),(65,K0 [pt 62 0,pt 63 0,iV 2,iV 3,iV 1000,u3 1,i3 0,u3 0,iV 0,pt 66 0,iV 2,iV 3,iV 1,iV 4,sl 503 0 7 1 1,sl 506 0 5 1 1,sl 509 0 2 1 1,nS,pt 78 0,mp 81]),(66,K0 [pt 62 0,sV [110],u3 1,i3 0,u3 0,iV 0,iV 0,nS,sl 710 0 1 8 8,bF]),(68,Fm 710 69),e 502 D0,e 503 D1c,e 505 D0,e 506 D1d,e 508 D0,e 509 D4,e 531 D0,e 532 D1,e 554 D0,e 555 D1,e 557 D0,e 558 D2,e 708 D0,e 709 Dl,(710,K1 [sl 67 0 1 4 4,sl 70 0 1 8 8,sl 72 0 1 4 4,sl 74 0 1 23 23,sl 76 0 1 8 8,sl 79 0 1 4 4,sl 94 0 1 8 8,sl 709 0 1 4 4] 68),e 743 D0,e 744 Djn]
def p219:RowH:=⟨239,⟨98,[pt 65 0,ag [iV 7,iV 4,iV 0,iV 0,sV [],iV 0,iV 0,nS,nS,sV [],iV 0,iV 0,nS,nS,iV 0,iV 0,nS]],a219,iV 0,b219,746⟩⟩
theorem G219:Gd p219:=G [] Z (by decide) (by decide +kernel)
def a228:List (Nat×LO):=[e 61 Daw,e 62 D52,(63,K0 [sl 82 0 1 181 181,bT,sl 86 0 1 1 1]),(65,K0 [pt 62 0,sV [110],u3 1,i3 0,u3 0,iV 0,iV 0,nS,sl 88 0 1 8 8,bF]),e 67 D53,e 68 D3,e 70 D5,e 72 D6,e 74 D1i,e 76 D22,e 78 D45,e 80 D8f,e 81 D0,e 82 D3p,e 83 D0,(84,K1 (bL [0,0,0,8,245,184,102,16,166,131,185,245,1,4,1,1,1,2,0,0]) 83),e 85 D0,e 86 D5s,(88,K1 [sl 66 0 1 4 4,sl 69 0 1 8 8,sl 71 0 1 4 4,sl 73 0 1 23 23,sl 75 0 1 8 8,sl 77 0 1 26 26,sl 79 0 1 4 4,sl 87 0 1 8 8] 67)]
def b228:List (Nat×LO):=[e 62 D1e,(63,K0 [sl 122 0 1 201 201,bT,nS]),e 121 D0,e 122 D8g]
def p228:RowH:=⟨349,⟨89,[pt 65 0],a228,iV 0,b228,124⟩⟩
theorem G228:Gd p228:=G [] Z (by decide) (by decide +kernel)
def a231:List (Nat×LO):=[e 61 Daw,e 62 D21,(63,K0 [sl 84 0 1 201 201,bT,sl 88 0 1 1 1]),(65,K0 [pt 62 0,sV [110],u3 1,i3 0,u3 0,iV 0,iV 0,nS,sl 90 0 1 9 9,bF]),e 67 D3g,e 68 D3,e 70 D5,e 72 D6,e 74 D1i,e 76 D22,e 78 D45,e 80 D8f,e 82 Dju,e 83 D0,e 84 D8g,e 85 D0,e 86 D4e,e 87 D0,e 88 D34,(90,K1 [sl 66 0 1 4 4,sl 69 0 1 8 8,sl 71 0 1 4 4,sl 73 0 1 23 23,sl 75 0 1 8 8,sl 77 0 1 26 26,sl 79 0 1 4 4,sl 81 0 1 8 8,sl 89 0 1 4 4] 67)]
def b231:List (Nat×LO):=[]
def p231:RowH:=⟨314,⟨91,[pt 65 2,.func (.func 552) ⟨[pt 65 0]⟩ ⟨[]⟩],a231,.tuple ⟨[]⟩,b231,91⟩⟩
theorem G231:Gd p231:=G [] Z (by decide) (by decide +kernel)
def a245:List (Nat×LO):=[e 61 D14,e 62 D1q,(63,K0 [pt 62 0,sV [110],u3 1,i3 1,u3 0,iV 0,iV 0,nS,sl 87 0 1 11 11,bF]),(64,K0 [sl 89 0 1 234 234,bT,nS]),e 66 D53,e 67 D3,e 69 D5,e 71 D6,e 73 Da,e 75 Db,e 77 Dj,e 79 Ds,e 81 Dt,e 83 Du,e 85 D1l,e 87 D6n,e 88 D0,e 89 D2r]
def b245:List (Nat×LO):=[(63,K0 [pt 62 0,sV [110],u3 1,i3 1,u3 0,iV 0,iV 0,nS,sl 519 0 1 22 22,bF]),e 66 D82,e 184 D2y,e 186 D0,e 216 D0,e 217 Dc,e 245 D0,e 246 Dk,e 274 D0,e 275 Dg,e 303 D0,e 304 Dn,e 332 D0,e 333 D9,e 361 D0,e 362 D7,e 390 D0,e 391 Dv,e 419 D0,e 420 D10,e 448 D0,e 449 D7,e 477 D0,e 478 D7,e 506 D0,e 507 D5b,(519,K1 [sl 65 0 1 4 4,sl 68 0 1 8 8,sl 70 0 1 4 4,sl 72 0 1 8 8,sl 74 0 1 4 4,sl 76 0 1 5 5,sl 78 0 1 23 23,sl 80 0 1 8 8,sl 82 0 1 5 5,sl 84 0 1 5 5,sl 86 0 1 8 8,sl 217 0 1 4 4,sl 246 0 1 8 8,sl 275 0 1 4 4,sl 304 0 1 8 8,sl 333 0 1 4 4,sl 362 0 1 5 5,sl 391 0 1 23 23,sl 420 0 1 8 8,sl 449 0 1 5 5,sl 478 0 1 5 5,sl 507 0 1 8 8] 66)]
def p245:RowH:=⟨552,⟨90,[pt 63 0],a245,.tuple ⟨[]⟩,b245,527⟩⟩
theorem G245:Gd p245:=G [] Z (by decide) (by decide +kernel)
def a257:List (Nat×LO):=[(62,K0 [sl 67 0 3 3 3,sl 72 0 1 3 3,iV 1000,sl 77 0 3 0 4,iV 16]),e 64 D2t,e 65 D4a,e 66 D0,e 67 D17,e 69 D1p,e 71 Dhy,e 72 D84,(73,K0 [pt 68 0,pt 71 0,iV 3,iV 3,iV 1000,u3 1,i3 0,u3 0,iV 0,pt 74 0,iV 3,iV 3,iV 0,iV 2,sl 83 0 7 1 1,sl 95 0 5 1 1,sl 85 0 2 1 1,nS,pt 75 0,mp 76]),e 78 D0,e 79 D1,e 80 D0,e 81 Dd,e 82 D0,e 83 Dw,e 84 D0,e 85 D29,e 86 D0,e 87 D1,e 88 D0,e 89 D2,e 90 D0,e 91 D1,e 92 D0,e 93 D2,e 94 D0,e 95 D1b]
def b257:List (Nat×LO):=[]
def p257:RowH:=⟨33,⟨96,[pt 62 0,iV 3],a257,bT,b257,1800⟩⟩
theorem G257:Gd p257:=G [] Z (by decide) (by decide +kernel)
end Go.Proofs.YtpaaopmmmfjkhaaGreatDoor.Q.awakeS
