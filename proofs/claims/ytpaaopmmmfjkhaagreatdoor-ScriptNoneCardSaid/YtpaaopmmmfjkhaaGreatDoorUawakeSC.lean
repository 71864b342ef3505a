/- awakeS: calls that are written down with what they meet of memory, part C: each reckoned by the evaluator, in the kernel. No conditions. -/
import Derived.Test.YtpaaopmmmfjkhaaGreatDoorUawakeST
import Derived.Test.YtpaaopmmmfjkhaaGreatDoorProg
import Derived.KernelRfl
set_option linter.unusedVariables false
set_option maxRecDepth 1000000
namespace Go.Proofs.YtpaaopmmmfjkhaaGreatDoor.Q.awakeS
open Go.RowKit
open Go.Proofs.YtpaaopmmmfjkhaaGreatDoor.Ev (sV bV iV bL tL sl sx pt mp nS nP nM u3 u6 i3 bT bF ag K0 K1 Fm Row RowGood RowH RowHGood LO putAt)
def a7:List (Nat×LO):=[e 61 D47,e 62 D3s,(64,K0 [pt 62 0,pt 63 0,iV 2,iV 3,iV 1000,u3 1,i3 0,u3 0,iV 0,pt 65 0,iV 2,iV 3,iV 0,iV 1,nS,nS,sl 73 0 2 1 1,nS,pt 67 0,mp 71]),e 65 Dbl,e 66 D8p,e 69 D5c,e 70 D3,e 72 D0,e 73 D4,e 75 D8q,e 76 D0,e 77 D6p]
def b7:List (Nat×LO):=[e 62 Do,(64,K0 [pt 62 0,pt 63 0,iV 2,iV 3,iV 1000,u3 1,i3 0,u3 0,iV 0,pt 65 0,iV 2,iV 3,iV 0,iV 2,nS,nS,sl 146 0 2 1 1,nS,pt 67 0,mp 71]),e 65 Dbm,e 66 D8r,e 69 D46,e 145 D0,e 146 D4,e 298 D8s,e 331 D0,e 332 Dr]
def p7:RowH:=⟨239,⟨78,[pt 64 0,ag [iV 7,iV 2,iV 0,iV 0,sV [],iV 0,iV 0,nS,nS,sV [],iV 0,iV 0,nS,nS,iV 0,iV 0,nS]],a7,iV 0,b7,334⟩⟩
theorem G7:Gd p7:=G [] Z (by decide) (by decide +kernel)
def a13:List (Nat×LO):=[e 61 D11,e 62 Do,e 63 D8w,e 64 D8x,e 65 D3t,e 68 D2t,e 69 D3,e 72 Dy,e 73 D0,e 74 D2s,e 76 D3u,e 77 D0,e 78 D5d]
def b13:List (Nat×LO):=[e 62 Dq,(63,K0 [pt 62 0,nP,iV 1,iV 1,iV 1000,u3 1,i3 0,u3 0,iV 0,pt 64 0,iV 1,iV 1,iV 0,iV 2,nS,nS,sl 213 0 2 2 2,nS,pt 66 0,mp 70]),(64,K0 [pt 62 0,sV [110],u3 1,i3 0,u3 0,iV 0,iV 0,nS,sl 366 0 1 4 4,bF]),(65,K0 [sl 400 0 1 92 92,bT,nS]),(68,Fm 366 69),e 146 Dbo,(212,K1 [iV 2,nS] 146),e 213 Dbp,(366,K1 [sl 67 0 1 4 4,sl 71 0 1 8 8,sl 75 0 1 4 4,sl 365 0 1 8 8] 68),e 399 D0,e 400 Dbq]
def p13:RowH:=⟨239,⟨79,[pt 63 0,ag [iV 4,iV 3,iV 0,iV 0,sV [],iV 0,iV 0,nS,nS,sV [],iV 0,iV 0,nS,nS,iV 0,iV 0,nS]],a13,iV 0,b13,402⟩⟩
theorem G13:Gd p13:=G [] Z (by decide) (by decide +kernel)
def a45:List (Nat×LO):=[e 61 D14,e 62 Di,e 64 Ddh,(65,K0 [pt 62 0,pt 63 0,iV 2,iV 3,iV 1000,u3 1,i3 0,u3 0,iV 0,pt 66 0,iV 2,iV 3,iV 0,iV 3,nS,nS,sl 79 0 2 1 1,nS,pt 74 0,mp 77]),e 66 Ddi,e 68 D4o,e 69 D3,e 71 D5,e 73 D6,e 76 Ddj,e 78 D0,e 79 D4,e 81 Ddk,e 82 D0,e 83 D73]
def b45:List (Nat×LO):=[e 62 Dz,e 64 Ddl,(65,K0 [pt 62 0,pt 63 0,iV 2,iV 3,iV 1000,u3 1,i3 0,u3 0,iV 0,pt 66 0,iV 2,iV 3,iV 0,iV 4,nS,nS,sl 152 0 2 1 1,nS,pt 74 0,mp 77]),e 66 Ddm,e 68 Ddn,e 151 D0,e 152 D4,e 302 D0,e 303 Dl,e 304 Ddo,e 337 D0,e 338 Ddp]
def p45:RowH:=⟨239,⟨84,[pt 65 0,ag [iV 7,iV 4,iV 0,iV 0,sV [],iV 0,iV 0,nS,nS,sV [],iV 0,iV 0,nS,nS,iV 0,iV 0,nS]],a45,iV 0,b45,340⟩⟩
theorem G45:Gd p45:=G [] Z (by decide) (by decide +kernel)
def a56:List (Nat×LO):=[e 61 D14,e 62 Dq,e 64 D70,e 65 Ddq,e 66 D71,e 68 D5e,e 69 D3,e 71 D5,e 73 D6,e 75 D0,e 76 D4,e 78 D72,e 79 D0,e 80 D25]
def b56:List (Nat×LO):=[e 62 Di,e 64 Ddd,(65,K0 [pt 62 0,pt 63 0,iV 3,iV 3,iV 1000,u3 1,i3 0,u3 0,iV 0,pt 66 0,iV 3,iV 3,iV 0,iV 3,nS,nS,sl 150 0 2 1 1,nS,pt 74 0,mp 81]),e 66 Dde,e 68 Ddf,e 149 D0,e 150 D4,e 359 D0,e 360 D1n,e 361 Ddg,e 394 D0,e 395 D73]
def p56:RowH:=⟨239,⟨82,[pt 65 0,ag [iV 4,iV 1,iV 0,iV 0,sV [],iV 0,iV 0,nS,nS,sV [],iV 0,iV 0,nS,nS,iV 0,iV 0,nS]],a56,iV 0,b56,397⟩⟩
theorem G56:Gd p56:=G [] Z (by decide) (by decide +kernel)
def a71:List (Nat×LO):=[e 61 De,e 62 D9u,e 63 D0,e 64 D1,e 65 D0,e 66 Dd,e 67 D0,e 68 D1,e 69 D0,e 70 D1o,e 71 D0,e 72 D1,e 73 D0,e 74 D2,e 75 D0,e 76 D1b]
def b71:List (Nat×LO):=[]
def p71:RowH:=⟨240,⟨77,[pt 62 0,sl 76 0 5 1 1,sl 70 0 7 1 1],a71,.tuple ⟨[ag [sV [],iV 0,iV 0,nS,nS,iV 0],bF,iV 0]⟩,b71,1481⟩⟩
theorem G71:Gd p71:=G [] Z (by decide) (by decide +kernel)
def a78:List (Nat×LO):=[e 61 D14,e 62 Dz,(63,K0 [pt 62 0,nP,iV 1,iV 1,iV 1000,u3 1,i3 1,u3 0,iV 0,pt 68 0,iV 1,iV 1,iV 0,iV 3,nS,nS,sl 83 0 2 2 2,nS,pt 84 0,mp 65]),(64,K0 [sl 67 0 1 125 125,bT,nS]),e 66 D0,e 67 D2z,e 68 Dc5,e 70 D2u,e 71 D3,e 73 D5,e 75 D6,e 77 Da,e 79 Db,e 81 Dj,e 82 D0,e 83 Dh]
def b78:List (Nat×LO):=[e 62 D1f,(63,K0 [pt 62 0,nP,iV 1,iV 1,iV 1000,u3 1,i3 1,u3 0,iV 0,pt 68 0,iV 1,iV 1,iV 0,iV 4,nS,nS,sl 180 0 2 2 2,nS,pt 84 0,mp 65]),e 64 Ddz,e 68 Dc6,e 70 D90,e 179 D0,e 180 Dh,e 341 D0,e 342 Dl,e 343 De0,e 376 D0,e 377 D3k]
def p78:RowH:=⟨239,⟨85,[pt 63 0,ag [iV 7,iV 4,iV 0,iV 0,sV [],iV 0,iV 0,nS,nS,sV [],iV 0,iV 0,nS,nS,iV 0,iV 0,nS]],a78,iV 0,b78,379⟩⟩
theorem G78:Gd p78:=G [] Z (by decide) (by decide +kernel)
def a93:List (Nat×LO):=[e 61 D14,e 62 Dq,(64,K0 [sl 66 0 1 107 107,bT,nS]),e 65 D0,e 66 D1h,(67,K0 [pt 62 0,pt 63 0,iV 2,iV 3,iV 1000,u3 0,i3 1,u3 0,iV 0,pt 68 0,iV 2,iV 3,iV 1,iV 2,sl 83 0 7 1 1,sl 89 0 5 1 1,sl 79 0 2 1 1,nS,pt 90 0,nM]),(68,K0 [pt 62 0,sV [110],u3 1,i3 0,u3 0,iV 0,iV 0,nS,sl 77 0 1 4 4,bF]),e 70 D6y,e 71 D3,e 73 D5,e 75 D6,e 77 D1i,e 78 D0,e 79 D4,e 80 D0,e 81 D1,e 82 D0,e 83 D1o,e 84 D0,e 85 D1,e 86 D0,e 87 D2,e 88 D0,e 89 D1b]
def b93:List (Nat×LO):=[e 62 Di,e 64 Ddw,(67,K0 [pt 62 0,pt 63 0,iV 2,iV 3,iV 1000,u3 0,i3 1,u3 0,iV 0,pt 68 0,iV 2,iV 3,iV 1,iV 3,sl 496 0 7 1 1,sl 499 0 5 1 1,sl 502 0 2 1 1,nS,pt 90 0,nM]),(68,K0 [pt 62 0,sV [110],u3 1,i3 0,u3 0,iV 0,iV 0,nS,sl 703 0 1 5 5,bF]),e 70 Ddx,e 495 D0,e 496 D1c,e 498 D0,e 499 D1d,e 501 D0,e 502 D4,e 524 D0,e 525 D1,e 547 D0,e 548 D1,e 550 D0,e 551 D2,e 701 D0,e 702 D9,e 703 Ddy,e 736 D0,e 737 D4q]
def p93:RowH:=⟨239,⟨91,[pt 67 0,ag [iV 7,iV 3,iV 0,iV 0,sV [],iV 0,iV 0,nS,nS,sV [],iV 0,iV 0,nS,nS,iV 0,iV 0,nS]],a93,iV 0,b93,739⟩⟩
theorem G93:Gd p93:=G [] Z (by decide) (by decide +kernel)
def a110:List (Nat×LO):=[e 61 D0,e 62 Dc,e 63 D66,e 64 D3,e 65 D0,e 66 Dk,e 67 Dy,e 68 D0,e 69 Dg,e 70 D2m,e 71 D0,e 72 Dn,e 73 D4v,e 74 D0,e 75 D9,e 76 D4w,e 77 D0,e 78 D7,e 79 D4x,e 80 D0,e 81 Dv,e 82 D5m,e 83 D0,e 84 D10,e 85 D5n]
def b110:List (Nat×LO):=[e 4326 D0,e 4327 D13,e 4329 D0,e 4330 Da6,e 4352 D0,e 4353 D1,e 4528 D0,e 4529 D2]
def p110:RowH:=⟨107,⟨86,[ag [iV 1,iV 1,iV 0,iV 0,nS,nS,nS,nS],sl 85 0 1 8 8],a110,.tuple ⟨[ag [iV 1,iV 1,iV 0,iV 3,sl 4327 0 7 1 1,nS,sl 4330 0 2 2 2,nS],iV 0]⟩,b110,4555⟩⟩
theorem G110:Gd p110:=G [] Z (by decide) (by decide +kernel)
def a119:List (Nat×LO):=[e 61 D11,e 62 D1a,e 63 Dfg,e 64 Dfh,e 65 Dfi,e 68 D1y,e 69 D3,e 72 Dy,e 74 D1x,e 76 D3w,e 78 D4u,e 80 D6g,e 82 D7h,e 83 D0,e 84 Dw,e 85 D0,e 86 D1w,e 87 D0,e 88 D1,e 89 D0,e 90 D2,e 92 Dfj,e 93 D0,e 94 D4d]
def b119:List (Nat×LO):=[e 62 D1j,e 63 Dfk,(64,K0 [pt 62 0,sV [110],u3 1,i3 0,u3 0,iV 0,iV 0,nS,sl 623 0 1 9 9,bF]),(65,K0 [sl 657 0 1 197 197,bT,nS]),(68,Fm 623 69),e 410 D0,e 411 D13,e 413 D0,e 414 D2e,e 436 D0,e 437 D1,e 452 D0,e 453 D2,(623,K1 [sl 67 0 1 4 4,sl 71 0 1 8 8,sl 73 0 1 4 4,sl 75 0 1 8 8,sl 77 0 1 4 4,sl 79 0 1 5 5,sl 81 0 1 23 23,sl 91 0 1 8 8,sl 622 0 1 5 5] 68),e 656 D0,e 657 D2f]
def p119:RowH:=⟨239,⟨95,[pt 63 0,ag [iV 8,iV 10000,iV 0,iV 0,sV [],iV 0,iV 0,nS,nS,sV [],iV 0,iV 0,nS,nS,iV 0,iV 0,nS]],a119,iV 0,b119,659⟩⟩
theorem G119:Gd p119:=G [] Z (by decide) (by decide +kernel)
def a125:List (Nat×LO):=[e 61 D14,e 62 D1j,e 63 Dfz,e 64 Dg0,e 66 D5g,e 67 D3,e 69 D5,e 71 D6,e 73 Da,e 75 Db,e 77 Dj,e 79 Ds,e 81 Dt,e 83 Du,e 84 D0,e 85 D2f,e 86 D0,e 87 D3e]
def b125:List (Nat×LO):=[e 62 D52,e 63 Dg1,e 64 Dg2,e 66 D7s,e 165 D0,e 166 D6j,e 168 D0,e 169 Dg3,e 182 D0,e 183 D3e,(184,K1 [sl 65 0 1 4 4,sl 68 0 1 8 8,sl 70 0 1 4 4,sl 72 0 1 8 8,sl 74 0 1 4 4,sl 76 0 1 5 5,sl 78 0 1 23 23,sl 80 0 1 8 8,sl 82 0 1 5 5,sl 183 0 1 3 3] 66)]
def p125:RowH:=⟨348,⟨88,[pt 63 0,sl 87 0 1 3 3],a125,iV 0,b125,185⟩⟩
theorem G125:Gd p125:=G [] Z (by decide) (by decide +kernel)
def a130:List (Nat×LO):=[e 61 Dm,e 62 D21,(63,K0 [sl 65 0 1 213 213,bT,sl 91 0 1 1 1]),e 64 D0,e 65 D27,e 66 Dg9,e 68 D3x,e 69 D3,e 71 D5,e 73 D6,e 75 Da,e 77 Db,e 79 Dj,e 81 Ds,e 83 Dt,e 85 Du,e 87 D2p,e 88 D0,e 89 D6k,e 90 D0,e 91 D34,(93,K1 [sl 67 0 1 4 4,sl 70 0 1 8 8,sl 72 0 1 4 4,sl 74 0 1 8 8,sl 76 0 1 4 4,sl 78 0 1 5 5,sl 80 0 1 23 23,sl 82 0 1 8 8,sl 84 0 1 5 5,sl 86 0 1 4 4,sl 92 0 1 4 4] 68)]
def b130:List (Nat×LO):=[e 66 Dga,e 68 Dgb,e 129 D0,e 137 D2b,e 142 Dgc,e 149 D7t,e 150 Dgd,e 163 Dge,e 168 D2b,e 170 Dgf,e 171 Dgg,e 241 D0,e 242 Dc,e 270 D0,e 271 Dk,e 299 D0,e 300 Dg,e 328 D0,e 329 Dn,e 357 D0,e 358 D9,e 386 D0,e 387 D7,e 415 D0,e 416 Dv,e 444 D0,e 445 D10,e 473 D0,e 474 D7,e 502 D0,e 503 Dl,e 531 D0,e 532 D1u,(544,K1 [sl 67 0 1 4 4,sl 70 0 1 8 8,sl 72 0 1 4 4,sl 74 0 1 8 8,sl 76 0 1 4 4,sl 78 0 1 5 5,sl 80 0 1 23 23,sl 82 0 1 8 8,sl 84 0 1 5 5,sl 86 0 1 4 4,sl 92 0 1 4 4,sl 242 0 1 4 4,sl 271 0 1 8 8,sl 300 0 1 4 4,sl 329 0 1 8 8,sl 358 0 1 4 4,sl 387 0 1 5 5,sl 416 0 1 23 23,sl 445 0 1 8 8,sl 474 0 1 5 5,sl 503 0 1 4 4,sl 532 0 1 4 4] 68)]
def p130:RowH:=⟨552,⟨94,[pt 66 0],a130,.tuple ⟨[]⟩,b130,552⟩⟩
theorem G130:Gd p130:=G [] Z (by decide) (by decide +kernel)
def a141:List (Nat×LO):=[e 61 Dm,e 62 D1e,e 63 D7u,e 64 D7v,e 66 D33,e 67 D3,e 69 D5,e 71 D6,e 73 Da,e 75 Db,e 77 Dj,e 79 Ds,e 81 Dt,e 83 Du,e 85 D2p,e 86 D0,e 87 D27,e 88 D0,e 89 Dn]
def b141:List (Nat×LO):=[e 62 D21,e 63 D7w,e 64 D7x,e 66 D5q,e 167 D0,e 168 Dah,e 170 D0,e 171 Dad,e 184 D0,e 185 Dn,e 186 Dgk]
def p141:RowH:=⟨348,⟨90,[pt 64 0,sl 89 0 1 8 8],a141,iV 0,b141,187⟩⟩
theorem G141:Gd p141:=G [] Z (by decide) (by decide +kernel)
def a157:List (Nat×LO):=[e 61 D11,e 62 Di,(64,K0 [pt 62 0,pt 63 0,iV 2,iV 3,iV 1000,u3 1,i3 1,u3 0,iV 0,pt 69 0,iV 2,iV 3,iV 1,iV 2,sl 82 0 7 1 1,sl 84 0 5 1 1,sl 86 0 2 1 1,nS,pt 95 0,mp 66]),e 65 Dhe,e 67 D0,e 68 D1r,e 69 D9w,e 71 D36,e 72 D3,e 74 D5,e 76 D6,e 78 D1i,e 80 D22,e 81 D0,e 82 D18,e 83 D0,e 84 D19,e 85 D0,e 86 D1k,e 87 D0,e 88 D1,e 89 D0,e 90 D1,e 91 D0,e 92 D2,e 93 D0,e 94 D2]
def b157:List (Nat×LO):=[e 62 Dz,(64,K0 [pt 62 0,pt 63 0,iV 2,iV 3,iV 1000,u3 1,i3 1,u3 0,iV 0,pt 69 0,iV 2,iV 3,iV 1,iV 3,sl 540 0 7 1 1,sl 543 0 5 1 1,sl 546 0 2 1 1,nS,pt 95 0,mp 66]),e 65 Dhf,(69,K0 [pt 62 0,sV [110],u3 1,i3 0,u3 0,iV 0,iV 0,nS,sl 752 0 1 6 6,bF]),e 71 Dhg,e 539 D0,e 540 D1c,e 542 D0,e 543 D1d,e 545 D0,e 546 D35,e 568 D0,e 569 D1,e 591 D0,e 592 D1,e 594 D0,e 595 D2,e 610 D0,e 611 D2,e 750 D0,e 751 D9,e 752 Dhh,e 785 D0,e 786 D4i]
def p157:RowH:=⟨239,⟨96,[pt 64 0,ag [iV 7,iV 3,iV 0,iV 0,sV [],iV 0,iV 0,nS,nS,sV [],iV 0,iV 0,nS,nS,iV 0,iV 0,nS]],a157,iV 0,b157,788⟩⟩
theorem G157:Gd p157:=G [] Z (by decide) (by decide +kernel)
def a168:List (Nat×LO):=[e 61 D47,e 62 Dq,(64,K0 [pt 62 0,pt 63 0,iV 3,iV 3,iV 1000,u3 1,i3 0,u3 0,iV 0,pt 65 0,iV 3,iV 3,iV 0,iV 2,sl 81 0 7 1 1,nS,sl 77 0 2 1 1,nS,pt 67 0,mp 71]),(65,K0 [pt 62 0,sV [110],u3 1,i3 0,u3 0,iV 0,iV 0,nS,sl 83 0 1 4 4,bF]),e 66 Df8,e 69 D3v,e 70 D3,e 73 Dy,e 75 D1x,e 76 D0,e 77 D4,e 78 D0,e 79 D1,e 80 D0,e 81 D1o,(83,K1 [sl 68 0 1 4 4,sl 72 0 1 8 8,sl 74 0 1 4 4,sl 82 0 1 23 23] 69),e 84 D0,e 85 Dhp]
def b168:List (Nat×LO):=[e 62 Di,(64,K0 [pt 62 0,pt 63 0,iV 3,iV 3,iV 1000,u3 1,i3 0,u3 0,iV 0,pt 65 0,iV 3,iV 3,iV 0,iV 2,sl 336 0 7 1 1,nS,sl 339 0 2 1 1,nS,pt 67 0,mp 71]),(65,K0 [pt 62 0,sV [110],u3 1,i3 0,u3 0,iV 0,iV 0,nS,sl 709 0 1 5 5,bF]),(66,K0 [sl 743 0 1 127 127,bT,nS]),e 69 Df0,e 335 D0,e 336 D13,e 338 D0,e 339 Dak,e 361 D0,e 362 D1,e 526 D0,e 527 D2,(709,K1 [sl 68 0 1 4 4,sl 72 0 1 8 8,sl 74 0 1 4 4,sl 82 0 1 23 23,sl 708 0 1 8 8] 69),e 742 D0,e 743 D44]
def p168:RowH:=⟨239,⟨86,[pt 64 0,ag [iV 5,iV 1,iV 0,iV 0,sV [],iV 0,iV 0,nS,nS,sV [],iV 0,iV 0,nS,nS,iV 2,iV 1,nS]],a168,iV 0,b168,745⟩⟩
theorem G168:Gd p168:=G [] Z (by decide) (by decide +kernel)
def a193:List (Nat×LO):=[e 61 D14,e 62 D21,e 63 Dij,e 64 Dik,e 66 D39,e 67 D3,e 69 D5,e 71 D6,e 73 Da,e 75 Db,e 77 Dj,e 79 Ds,e 81 Dt,e 83 Du,e 85 D1l,e 86 D0,e 87 D32,e 88 D0,e 89 D6j,e 90 D0,e 91 Da9,(93,K1 [sl 65 0 1 4 4,sl 68 0 1 8 8,sl 70 0 1 4 4,sl 72 0 1 8 8,sl 74 0 1 4 4,sl 76 0 1 5 5,sl 78 0 1 23 23,sl 80 0 1 8 8,sl 82 0 1 5 5,sl 84 0 1 5 5,sl 92 0 1 3 3] 66)]
def b193:List (Nat×LO):=[e 63 Dil,e 66 D5r,e 241 D0,e 242 Dc,e 270 D0,e 271 Dk,e 299 D0,e 300 Dg,e 328 D0,e 329 Dn,e 357 D0,e 358 D9,e 386 D0,e 387 D7,e 415 D0,e 416 Dv,e 444 D0,e 445 D10,e 473 D0,e 474 D7,e 502 D0,e 503 D7,e 531 D0,e 532 D3e,(544,K1 [sl 65 0 1 4 4,sl 68 0 1 8 8,sl 70 0 1 4 4,sl 72 0 1 8 8,sl 74 0 1 4 4,sl 76 0 1 5 5,sl 78 0 1 23 23,sl 80 0 1 8 8,sl 82 0 1 5 5,sl 84 0 1 5 5,sl 92 0 1 3 3,sl 242 0 1 4 4,sl 271 0 1 8 8,sl 300 0 1 4 4,sl 329 0 1 8 8,sl 358 0 1 4 4,sl 387 0 1 5 5,sl 416 0 1 23 23,sl 445 0 1 8 8,sl 474 0 1 5 5,sl 503 0 1 5 5,sl 532 0 1 3 3] 66)]
def p193:RowH:=⟨552,⟨94,[pt 63 0],a193,.tuple ⟨[]⟩,b193,552⟩⟩
theorem G193:Gd p193:=G [] Z (by decide) (by decide +kernel)
def a202:List (Nat×LO):=[e 61 Dm,e 62 D3o,e 63 D85,e 64 D5t,e 66 D4g,e 67 D3,e 69 D5,e 71 D6,e 73 Da,e 75 Db,e 77 Dj,e 79 Ds,e 81 Dt,e 83 Du,e 85 D1l,e 87 D3b,e 88 D0,e 89 D2q,e 90 D0,e 91 Dab,e 92 D0,e 93 D34,e 95 Diw]
def b202:List (Nat×LO):=[e 64 D5u,e 66 D4h,e 243 D0,e 244 Dc,e 272 D0,e 273 Dk,e 301 D0,e 302 Dg,e 330 D0,e 331 Dn,e 359 D0,e 360 D9,e 388 D0,e 389 D7,e 417 D0,e 418 Dv,e 446 D0,e 447 D10,e 475 D0,e 476 D7,e 504 D0,e 505 D7,e 533 D0,e 534 Dl,e 562 D0,e 563 D4m,e 575 Dix]
def p202:RowH:=⟨552,⟨96,[pt 64 0],a202,.tuple ⟨[]⟩,b202,583⟩⟩
theorem G202:Gd p202:=G [] Z (by decide) (by decide +kernel)
def a224:List (Nat×LO):=[e 61 D0,e 62 Dc,e 63 D33,e 64 D3,e 65 D0,e 66 D1n,e 67 Dy,e 68 D0,e 69 Dg,e 70 D2m,e 71 D0,e 72 Dv,e 73 D4p,e 74 D0,e 75 D43,e 76 D6m,e 77 D0,e 78 D5a,e 79 Dhu,e 80 D0,e 81 D9,(82,K1 [sl 62 0 1 4 4,sl 66 0 1 8 8,sl 69 0 1 4 4,sl 72 0 1 23 23,sl 75 0 1 8 8,sl 78 0 1 26 26,sl 81 0 1 4 4] 63)]
def b224:List (Nat×LO):=[e 5481 D0,e 5482 D1c,e 5484 D0,e 5485 D1d,e 5487 D0,e 5488 D35,e 5510 D0,e 5511 D1,e 5533 D0,e 5534 D1,e 5536 D0,e 5537 D2,e 5552 D0,e 5553 D2]
def p224:RowH:=⟨107,⟨83,[ag [iV 3,iV 3,iV 0,iV 0,nS,nS,nS,nS],sl 82 0 1 7 7],a224,.tuple ⟨[ag [iV 3,iV 3,iV 0,iV 3,sl 5482 0 7 1 1,sl 5485 0 5 1 1,sl 5488 0 2 1 1,nS],iV 0]⟩,b224,5575⟩⟩
theorem G224:Gd p224:=G [] Z (by decide) (by decide +kernel)
def a230:List (Nat×LO):=[e 61 Daw,e 62 D1e,(63,K0 [sl 84 0 1 201 201,bT,nS]),e 64 D23,(65,K0 [pt 62 0,sV [110],u3 1,i3 0,u3 0,iV 0,iV 0,nS,sl 82 0 1 8 8,bF]),e 67 D2b,e 68 D3,e 70 D5,e 72 D6,e 74 D1i,e 76 D22,e 78 D45,e 80 D8f,e 82 Dju,e 83 D0,e 84 D8g,e 85 D0,e 86 Dl]
def b230:List (Nat×LO):=[e 62 D21,(63,K0 [sl 84 0 1 201 201,bT,sl 171 0 1 1 1]),(65,K0 [pt 62 0,sV [110],u3 1,i3 0,u3 0,iV 0,iV 0,nS,sl 186 0 1 9 9,bF]),e 67 Djv,e 167 D0,e 168 D4e,e 170 D0,e 171 D5p,e 184 D0,e 185 Dl,(186,K1 [sl 66 0 1 4 4,sl 69 0 1 8 8,sl 71 0 1 4 4,sl 73 0 1 23 23,sl 75 0 1 8 8,sl 77 0 1 26 26,sl 79 0 1 4 4,sl 81 0 1 8 8,sl 185 0 1 4 4] 67)]
def p230:RowH:=⟨348,⟨87,[pt 65 0,sl 86 0 1 4 4],a230,iV 0,b230,187⟩⟩
theorem G230:Gd p230:=G [] Z (by decide) (by decide +kernel)
end Go.Proofs.YtpaaopmmmfjkhaaGreatDoor.Q.awakeS
