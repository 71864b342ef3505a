/- awakeS: calls that are written down with what they meet of memory, part D: each reckoned by the evaluator, in the kernel. No conditions. -/
import Derived.Test.YtpaaopmmmfjkhaaGreatDoorUawakeST
import Derived.Test.YtpaaopmmmfjkhaaGreatDoorProg
import Derived.KernelRfl
set_option linter.unusedVariables false
set_option maxRecDepth 1000000
namespace Go.Proofs.YtpaaopmmmfjkhaaGreatDoor.Q.awakeS
open Go.RowKit
open Go.Proofs.YtpaaopmmmfjkhaaGreatDoor.Ev (sV bV iV bL tL sl sx pt mp nS nP nM u3 u6 i3 bT bF ag K0 K1 Fm Row RowGood RowH RowHGood LO putAt)
def a11:List (Nat×LO):=[e 61 D11,e 62 Do,e 63 D8w,e 64 D8x,e 65 D3t,e 68 D2t,e 69 D3,e 72 Dy,e 73 D0,e 74 D2s,e 76 D3u,e 77 D0,e 78 D5d]
def b11:List (Nat×LO):=[e 62 Dq,(63,K0 [pt 62 0,nP,iV 1,iV 1,iV 1000,u3 1,i3 0,u3 0,iV 0,pt 64 0,iV 1,iV 1,iV 0,iV 2,nS,nS,sl 147 0 2 1 1,nS,pt 66 0,mp 70]),(64,K0 [pt 62 0,sV [110],u3 1,i3 0,u3 0,iV 0,iV 0,nS,sl 358 0 1 4 4,bF]),(65,K0 [sl 392 0 1 92 92,bT,nS]),(68,Fm 358 69),e 146 D0,e 147 D2s,e 356 D0,e 357 Dk,(358,K1 [sl 67 0 1 4 4,sl 71 0 1 8 8,sl 75 0 1 4 4,sl 357 0 1 8 8] 68),e 391 D0,e 392 Dbn]
def p11:RowH:=⟨239,⟨79,[pt 63 0,ag [iV 4,iV 2,iV 0,iV 0,sV [],iV 0,iV 0,nS,nS,sV [],iV 0,iV 0,nS,nS,iV 0,iV 0,nS]],a11,iV 0,b11,394⟩⟩
theorem G11:Gd p11:=G [] Z (by decide) (by decide +kernel)
def a14:List (Nat×LO):=[e 61 D11,e 62 Dq,(63,K0 [pt 62 0,nP,iV 1,iV 1,iV 1000,u3 1,i3 0,u3 0,iV 0,pt 64 0,iV 1,iV 1,iV 0,iV 2,nS,nS,sl 77 0 2 2 2,nS,pt 66 0,mp 70]),(64,K0 [pt 62 0,sV [110],u3 1,i3 0,u3 0,iV 0,iV 0,nS,sl 79 0 1 4 4,bF]),(65,K0 [sl 81 0 1 92 92,bT,nS]),e 68 D2u,e 69 D3,e 72 Dy,e 74 D1x,e 75 D4l,e 76 D2s,(77,K1 [iV 2,nS,iV 3,nS] 75),(79,K1 [sl 67 0 1 4 4,sl 71 0 1 8 8,sl 73 0 1 4 4,sl 78 0 1 8 8] 68),e 80 D0,e 81 Dbq]
def b14:List (Nat×LO):=[e 62 Di,(63,K0 [pt 62 0,nP,iV 1,iV 1,iV 1000,u3 1,i3 0,u3 0,iV 0,pt 64 0,iV 1,iV 1,iV 0,iV 3,nS,nS,sl 177 0 2 2 2,nS,pt 66 0,mp 70]),(64,K0 [pt 62 0,sV [110],u3 1,i3 0,u3 0,iV 0,iV 0,nS,sl 340 0 1 5 5,bF]),(65,K0 [sl 374 0 1 108 108,bT,nS]),(68,Fm 340 69),e 176 D0,e 177 Dh,(340,K1 [sl 67 0 1 4 4,sl 71 0 1 8 8,sl 73 0 1 4 4,sl 78 0 1 8 8,sl 339 0 1 4 4] 68),e 373 D0,e 374 D2v]
def p14:RowH:=⟨239,⟨82,[pt 63 0,ag [iV 7,iV 3,iV 0,iV 0,sV [],iV 0,iV 0,nS,nS,sV [],iV 0,iV 0,nS,nS,iV 0,iV 0,nS]],a14,iV 0,b14,376⟩⟩
theorem G14:Gd p14:=G [] Z (by decide) (by decide +kernel)
def a18:List (Nat×LO):=[e 61 D47,e 62 D3s,(64,K0 [pt 62 0,pt 63 0,iV 3,iV 3,iV 1000,u3 1,i3 0,u3 0,iV 0,pt 65 0,iV 3,iV 3,iV 0,iV 1,nS,nS,sl 73 0 2 1 1,nS,pt 67 0,mp 71]),e 65 Dbl,e 66 D8p,e 69 D5c,e 70 D3,e 72 D0,e 73 D4,e 75 D8q,e 76 D0,e 77 D6p]
def b18:List (Nat×LO):=[e 62 Do,(64,K0 [pt 62 0,pt 63 0,iV 3,iV 3,iV 1000,u3 1,i3 0,u3 0,iV 0,pt 65 0,iV 3,iV 3,iV 0,iV 2,nS,nS,sl 146 0 2 1 1,nS,pt 67 0,mp 71]),e 65 Dbm,e 66 D8r,e 69 D46,e 145 D0,e 146 D4,e 298 D8s,e 331 D0,e 332 Dr]
def p18:RowH:=⟨239,⟨78,[pt 64 0,ag [iV 7,iV 2,iV 0,iV 0,sV [],iV 0,iV 0,nS,nS,sV [],iV 0,iV 0,nS,nS,iV 0,iV 0,nS]],a18,iV 0,b18,334⟩⟩
theorem G18:Gd p18:=G [] Z (by decide) (by decide +kernel)
def a37:List (Nat×LO):=[e 61 D47,e 62 Do,(64,K0 [pt 62 0,pt 63 0,iV 2,iV 3,iV 1000,u3 1,i3 0,u3 0,iV 0,pt 65 0,iV 2,iV 3,iV 0,iV 2,nS,nS,sl 75 0 2 1 1,nS,pt 67 0,mp 71]),e 65 Dd0,e 66 D3t,e 69 D2t,e 70 D3,e 73 Dy,e 74 D0,e 75 D4,e 77 D3u,e 78 D0,e 79 Dr,e 80 D0,e 81 D1]
def b37:List (Nat×LO):=[e 62 Dq,(64,K0 [pt 62 0,pt 63 0,iV 2,iV 3,iV 1000,u3 1,i3 0,u3 0,iV 0,pt 65 0,iV 2,iV 3,iV 1,iV 2,sl 500 0 7 1 1,sl 711 0 5 1 1,sl 150 0 2 1 1,nS,pt 67 0,mp 71]),(65,K0 [pt 62 0,sV [110],u3 1,i3 0,u3 0,iV 0,iV 0,nS,sl 1149 0 1 4 4,bF]),(66,K0 [sl 1183 0 1 107 107,bT,nS]),(69,Fm 1149 70),e 149 D0,e 150 D4,e 496 D0,e 497 D1,e 499 D0,e 500 D5h,e 704 D0,e 705 D1,e 707 D0,e 708 D2,e 710 D0,e 711 D3f,e 1147 D0,e 1148 D5i,(1149,K1 [sl 68 0 1 4 4,sl 72 0 1 8 8,sl 76 0 1 4 4,sl 1148 0 1 23 23] 69),e 1182 D0,e 1183 D1h]
def p37:RowH:=⟨239,⟨82,[pt 64 0,ag [iV 1,iV 0,iV 2,iV 1,sV [102],iV 1,iV 0,sl 81 0 1 1 1,nS,sV [],iV 0,iV 0,nS,nS,iV 0,iV 0,nS]],a37,iV 0,b37,1185⟩⟩
theorem G37:Gd p37:=G [] Z (by decide) (by decide +kernel)
def a57:List (Nat×LO):=[e 61 D14,e 62 Di,e 64 Ddh,(65,K0 [pt 62 0,pt 63 0,iV 3,iV 3,iV 1000,u3 1,i3 0,u3 0,iV 0,pt 66 0,iV 3,iV 3,iV 0,iV 3,nS,nS,sl 79 0 2 1 1,nS,pt 74 0,mp 77]),e 66 Ddi,e 68 D4o,e 69 D3,e 71 D5,e 73 D6,e 76 Ddj,e 78 D0,e 79 D4,e 81 Ddk,e 82 D0,e 83 D73]
def b57:List (Nat×LO):=[e 62 Dz,e 64 Ddl,(65,K0 [pt 62 0,pt 63 0,iV 3,iV 3,iV 1000,u3 1,i3 0,u3 0,iV 0,pt 66 0,iV 3,iV 3,iV 0,iV 4,nS,nS,sl 152 0 2 1 1,nS,pt 74 0,mp 77]),e 66 Ddm,e 68 Ddn,e 151 D0,e 152 D4,e 302 D0,e 303 Dl,e 304 Ddo,e 337 D0,e 338 Ddp]
def p57:RowH:=⟨239,⟨84,[pt 65 0,ag [iV 7,iV 4,iV 0,iV 0,sV [],iV 0,iV 0,nS,nS,sV [],iV 0,iV 0,nS,nS,iV 0,iV 0,nS]],a57,iV 0,b57,340⟩⟩
theorem G57:Gd p57:=G [] Z (by decide) (by decide +kernel)
def a81:List (Nat×LO):=[e 61 Dm,e 62 Dz,e 63 De7,e 64 D0,e 65 D2z,(66,K0 [pt 62 0,nP,iV 1,iV 1,iV 1000,u3 0,i3 1,u3 0,iV 0,pt 67 0,iV 1,iV 1,iV 0,iV 3,nS,nS,sl 82 0 2 2 2,nS,pt 83 0,nM]),(67,K0 [pt 62 0,sV [110],u3 1,i3 0,u3 0,iV 0,iV 0,nS,sl 80 0 1 6 6,bF]),e 69 D2u,e 70 D3,e 72 D5,e 74 D6,e 76 Da,e 78 Db,e 80 Dj,e 81 D0,e 82 Dh]
def b81:List (Nat×LO):=[e 62 D1f,e 63 Ddz,(66,K0 [pt 62 0,nP,iV 1,iV 1,iV 1000,u3 0,i3 1,u3 0,iV 0,pt 67 0,iV 1,iV 1,iV 0,iV 4,nS,nS,sl 179 0 2 2 2,nS,pt 83 0,nM]),(67,K0 [pt 62 0,sV [110],u3 1,i3 0,u3 0,iV 0,iV 0,nS,sl 342 0 1 7 7,bF]),e 69 D90,e 178 D0,e 179 Dh,e 340 D0,e 341 Dl,e 342 De0,e 375 D0,e 376 D3k]
def p81:RowH:=⟨239,⟨84,[pt 66 0,ag [iV 7,iV 4,iV 0,iV 0,sV [],iV 0,iV 0,nS,nS,sV [],iV 0,iV 0,nS,nS,iV 0,iV 0,nS]],a81,iV 0,b81,378⟩⟩
theorem G81:Gd p81:=G [] Z (by decide) (by decide +kernel)
def a85:List (Nat×LO):=[e 61 Dm,e 62 D1f,e 63 D7c,e 64 D7d,e 65 D7e,e 67 D4y,e 68 D3,e 70 D5,e 72 D6,e 74 Da,e 76 Db,e 78 Dj,e 80 D0,e 81 Dh,e 83 D65,e 84 D0,e 85 D3k]
def b85:List (Nat×LO):=[e 62 D1a,e 63 De8,e 64 De9,e 65 Dea,e 67 Deb,e 181 D0,e 182 D91,e 354 D0,e 355 D48,e 356 Dec,e 389 D0,(390,K1 (bL [0,0,0,8,168,199,248,50,40,26,57,197,0,0,0,0,0,0,0,0,0,0,0,4,164,125,234,119,66,173,119,67,1,7,1,1,0,0,0,8,134,110,62,213,105,40,219,196,1,4,1,2,1,2,0,0,0,0,0,4,164,125,235,119,66,173,120,246,1,7,1,2,0,0,0,8,185,180,179,187,152,68,234,131,1,4,1,3,1,2,0,0,0,0,0,4,164,125,236,119,66,173,122,169,1,7,1,3,0,0,0,5,233,40,100,107,255,170,192,229,1,8,2,39,16,0,0,0,4,164,125,237,119,66,173,124,92,1,7,1,4,0,0,0,4,155,219,60,119,61,203,64,157,1,6,1,2]) 389)]
def p85:RowH:=⟨239,⟨87,[pt 64 0,ag [iV 6,iV 2,iV 0,iV 0,sV [],iV 0,iV 0,nS,nS,sV [],iV 0,iV 0,nS,nS,iV 0,iV 0,nS]],a85,iV 0,b85,392⟩⟩
theorem G85:Gd p85:=G [] Z (by decide) (by decide +kernel)
def a95:List (Nat×LO):=[e 61 D14,e 62 Di,(64,K0 [sl 67 0 1 123 123,bT,nS]),(65,K0 [pt 62 0,pt 63 0,iV 2,iV 3,iV 1000,u3 1,i3 1,u3 0,iV 0,pt 69 0,iV 2,iV 3,iV 1,iV 3,sl 82 0 7 1 1,sl 84 0 5 1 1,sl 86 0 2 1 1,nS,pt 93 0,mp 68]),e 66 D0,e 67 D4q,e 69 D9w,e 71 D36,e 72 D3,e 74 D5,e 76 D6,e 78 D1i,(80,K1 [sl 70 0 1 4 4,sl 73 0 1 8 8,sl 75 0 1 4 4,sl 77 0 1 23 23,sl 79 0 1 4 4] 71),e 81 D0,e 82 D18,e 83 D0,e 84 D19,e 85 D0,e 86 D4,e 87 D0,e 88 D1,e 89 D0,e 90 D1,e 91 D0,e 92 D2]
def b95:List (Nat×LO):=[e 62 Dz,(64,K0 [sl 740 0 1 139 139,bT,nS]),(65,K0 [pt 62 0,pt 63 0,iV 2,iV 3,iV 1000,u3 1,i3 1,u3 0,iV 0,pt 69 0,iV 2,iV 3,iV 1,iV 4,sl 499 0 7 1 1,sl 502 0 5 1 1,sl 505 0 2 1 1,nS,pt 93 0,mp 68]),(69,K0 [pt 62 0,sV [110],u3 1,i3 0,u3 0,iV 0,iV 0,nS,sl 706 0 1 6 6,bF]),(71,Fm 706 72),e 498 D0,e 499 D1c,e 501 D0,e 502 D1d,e 504 D0,e 505 D4,e 527 D0,e 528 D1,e 550 D0,e 551 D1,e 553 D0,e 554 D2,e 704 D0,e 705 Dl,(706,K1 [sl 70 0 1 4 4,sl 73 0 1 8 8,sl 75 0 1 4 4,sl 77 0 1 23 23,sl 79 0 1 4 4,sl 705 0 1 4 4] 71),e 739 D0,(740,K1 (bL [0,0,0,8,168,199,248,50,40,26,57,197,0,0,0,0,0,0,0,0,0,0,0,4,164,125,234,119,66,173,119,67,1,7,1,1,0,0,0,8,245,184,102,16,166,131,185,245,1,4,1,1,1,2,0,0,0,0,0,4,164,125,235,119,66,173,120,246,1,7,1,2,0,0,0,23,141,187,21,220,158,116,141,75,1,1,1,19,1,2,1,1,1,1,102,1,6,1,1,0,1,1,7,1,2,0,0,0,0,0,4,164,125,236,119,66,173,122,169,1,7,1,3,0,0,0,4,164,125,237,119,66,173,124,92,1,7,1,4]) 739)]
def p95:RowH:=⟨239,⟨94,[pt 65 0,ag [iV 7,iV 4,iV 0,iV 0,sV [],iV 0,iV 0,nS,nS,sV [],iV 0,iV 0,nS,nS,iV 0,iV 0,nS]],a95,iV 0,b95,742⟩⟩
theorem G95:Gd p95:=G [] Z (by decide) (by decide +kernel)
def a135:List (Nat×LO):=[e 61 Dm,e 62 D21,e 63 D7y,e 64 D7z,e 66 D39,e 67 D3,e 69 D5,e 71 D6,e 73 Da,e 75 Db,e 77 Dj,e 79 Ds,e 81 Dt,e 83 Du,e 85 D2p,e 86 D0,e 87 D27,e 88 D0,e 89 Dab,e 90 D0,e 91 D34,e 93 Dgi]
def b135:List (Nat×LO):=[e 64 D80,e 66 D5r,e 241 D0,e 242 Dc,e 270 D0,e 271 Dk,e 299 D0,e 300 Dg,e 328 D0,e 329 Dn,e 357 D0,e 358 D9,e 386 D0,e 387 D7,e 415 D0,e 416 Dv,e 444 D0,e 445 D10,e 473 D0,e 474 D7,e 502 D0,e 503 Dl,e 531 D0,e 532 D4m,e 544 Dgj]
def p135:RowH:=⟨552,⟨94,[pt 64 0],a135,.tuple ⟨[]⟩,b135,552⟩⟩
theorem G135:Gd p135:=G [] Z (by decide) (by decide +kernel)
def a153:List (Nat×LO):=[e 61 D47,e 62 Dq,(64,K0 [pt 62 0,pt 63 0,iV 2,iV 3,iV 1000,u3 1,i3 0,u3 0,iV 0,pt 65 0,iV 2,iV 3,iV 1,iV 2,sl 81 0 7 1 1,sl 87 0 5 1 1,sl 77 0 2 1 1,nS,pt 67 0,mp 71]),(65,K0 [pt 62 0,sV [110],u3 1,i3 0,u3 0,iV 0,iV 0,nS,sl 89 0 1 4 4,bF]),(66,K0 [sl 91 0 1 107 107,bT,nS]),e 69 Da5,e 70 D3,e 73 Dy,e 75 D1x,e 76 D0,e 77 D4,e 78 D0,e 79 D1,e 80 D0,e 81 D1o,e 82 D0,e 83 D1,e 84 D0,e 85 D2,e 86 D0,e 87 D1b,(89,K1 [sl 68 0 1 4 4,sl 72 0 1 8 8,sl 74 0 1 4 4,sl 88 0 1 23 23] 69),e 90 D0,e 91 D1h]
def b153:List (Nat×LO):=[e 62 Di,(64,K0 [pt 62 0,pt 63 0,iV 2,iV 3,iV 1000,u3 1,i3 0,u3 0,iV 0,pt 65 0,iV 2,iV 3,iV 1,iV 2,sl 497 0 7 1 1,sl 500 0 5 1 1,sl 503 0 2 1 1,nS,pt 67 0,mp 71]),(65,K0 [pt 62 0,sV [110],u3 1,i3 0,u3 0,iV 0,iV 0,nS,sl 899 0 1 5 5,bF]),(66,K0 [sl 933 0 1 127 127,bT,nS]),(69,Fm 899 70),e 496 D0,e 497 D1c,e 499 D0,e 500 D1d,e 502 D0,e 503 D6l,e 525 D0,e 526 D1,e 548 D0,e 549 D1,e 551 D0,e 552 D2,e 716 D0,e 717 D2,e 932 D0,e 933 D1r]
def p153:RowH:=⟨239,⟨92,[pt 64 0,ag [iV 5,iV 1,iV 0,iV 0,sV [],iV 0,iV 0,nS,nS,sV [],iV 0,iV 0,nS,nS,iV 2,iV 1,nS]],a153,iV 0,b153,935⟩⟩
theorem G153:Gd p153:=G [] Z (by decide) (by decide +kernel)
def a162:List (Nat×LO):=[e 61 De,e 62 D9u,e 63 D0,e 64 D1,e 65 D0,e 66 Dd,e 67 D0,e 68 Dw,e 69 D0,(70,K1 [sV [102],iV 1,iV 0,sl 74 0 1 1 1,sl 76 0 3 1 1] 69),e 71 D0,e 72 D1,e 73 D0,e 74 D1,e 75 D0,e 76 D2]
def b162:List (Nat×LO):=[]
def p162:RowH:=⟨240,⟨77,[pt 62 0,sl 70 0 5 1 1,sl 68 0 7 1 1],a162,.tuple ⟨[ag [sV [],iV 0,iV 0,nS,nS,iV 0],bF,iV 0]⟩,b162,1481⟩⟩
theorem G162:Gd p162:=G [] Z (by decide) (by decide +kernel)
def a173:List (Nat×LO):=[e 61 D0,e 62 Dhq,e 63 D0,e 64 D1]
def b173:List (Nat×LO):=[e 1102 D0,e 1103 D1,e 1105 D0,e 1106 D2]
def p173:RowH:=⟨69,⟨65,[nS,sl 62 0 7 1 1],a173,.tuple ⟨[ag [sV [102],iV 1,iV 0,sl 1103 0 1 1 1,sl 1106 0 3 1 1],bT]⟩,b173,1107⟩⟩
theorem G173:Gd p173:=G [] Z (by decide) (by decide +kernel)
def a188:List (Nat×LO):=[e 61 D0,e 62 Dc,e 63 D4f,e 64 D3,e 65 D0,e 66 Dk,e 67 Dy,e 68 D0,e 69 Dg,e 70 D2m,e 71 D0,e 72 Dn,e 73 D4v,e 74 D0,e 75 D9,e 76 D4w,e 77 D0,e 78 D7,e 79 D4x,e 80 D0,e 81 Dv,e 82 D5m,e 83 D0,e 84 D10,e 85 D5n,e 86 D0,e 87 D7,e 88 D6i,e 89 D0,e 90 D7,e 91 Dat]
def b188:List (Nat×LO):=[e 1167 D7q,e 1168 Dau,e 2817 Di4,e 2818 Di5,e 3172 Di6,e 3198 Di7,e 3199 Di8,e 3200 Di9,e 3201 Dia,e 3380 Dib,e 5657 D0,e 5658 D13,e 5660 D0,e 5661 D2e,e 5683 D0,e 5684 D1,e 5699 D0,e 5700 D2]
def p188:RowH:=⟨107,⟨92,[ag [iV 1,iV 1,iV 0,iV 0,nS,nS,nS,nS],sl 91 0 1 10 10],a188,.tuple ⟨[ag [iV 1,iV 1,iV 0,iV 3,sl 5658 0 7 1 1,nS,sl 5661 0 2 2 2,nS],iV 0]⟩,b188,5749⟩⟩
theorem G188:Gd p188:=G [] Z (by decide) (by decide +kernel)
def a205:List (Nat×LO):=[e 61 Dm,e 62 D42,e 63 Dj1,e 64 Dj2,e 66 D3g,e 67 D3,e 69 D5,e 71 D6,e 73 Da,e 75 Db,e 77 Dj,e 79 Ds,e 81 Dt,e 83 Du,e 85 D1l,e 87 D3b,e 89 D8b,e 90 D0,(91,K1 (bL [0,0,0,8,168,199,248,50,40,26,57,197,0,0,0,0,0,0,0,0,0,0,0,4,164,125,234,119,66,173,119,67,1,7,1,1,0,0,0,8,134,110,62,213,105,40,219,196,1,4,1,2,1,2,0,0,0,0,0,4,164,125,235,119,66,173,120,246,1,7,1,2,0,0,0,8,185,180,179,187,152,68,234,131,1,4,1,3,1,2,0,0,0,0,0,4,164,125,236,119,66,173,122,169,1,7,1,3,0,0,0,5,233,40,100,107,255,170,192,229,1,8,2,39,16,0,0,0,23,75,60,233,200,244,58,201,80,1,2,1,19,1,2,1,1,1,1,102,1,6,1,1,0,1,1,7,1,2,0,0,0,0,0,8,210,133,229,10,139,129,185,217,1,5,1,2,1,2,1,1,0,0,0,5,233,40,100,107,255,170,192,229,1,8,2,39,16,0,0,0,5,233,40,100,107,255,170,192,229,1,8,2,39,16,0,0,0,4,164,125,237,119,66,173,124,92,1,7,1,4,0,0,0,8,134,110,62,213,105,40,219,196,1,4,1,2,1,2,0,0]) 90)]
def b205:List (Nat×LO):=[e 64 Dj3,e 66 Dj4,e 186 D2y,e 188 D0,e 218 D0,e 219 Dc,e 247 D0,e 248 Dk,e 276 D0,e 277 Dg,e 305 D0,e 306 Dn,e 334 D0,e 335 D9,e 363 D0,e 364 D7,e 392 D0,e 393 Dv,e 421 D0,e 422 D10,e 450 D0,e 451 D7,e 479 D0,e 480 D7,e 508 D0,e 509 Dl,e 537 D0,e 538 Dk,e 550 Dj5]
def p205:RowH:=⟨552,⟨92,[pt 64 0],a205,.tuple ⟨[]⟩,b205,558⟩⟩
theorem G205:Gd p205:=G [] Z (by decide) (by decide +kernel)
def a206:List (Nat×LO):=[e 62 Dj6,e 64 D3x,e 65 D3,e 67 D5,e 69 D6,e 71 Da,e 73 Db,e 75 Dj,e 77 Ds,e 79 Dt,e 81 Du,e 83 D1l,e 85 D3b,e 87 D8b,e 89 Dj7,e 90 D0,e 91 Dj8]
def b206:List (Nat×LO):=[e 62 Dj9,e 64 Dja,e 147 D0,e 148 Dc,e 176 D0,e 177 Dk,e 205 D0,e 206 Dg,e 234 D0,e 235 Dn,e 263 D0,e 264 D9,e 292 D0,e 293 D7,e 321 D0,e 322 Dv,e 350 D0,e 351 D10,e 379 D0,e 380 D7,e 408 D0,e 409 D7,e 437 D0,e 438 Dl,e 466 D0,e 467 Dk,e 495 D0,e 496 D1u,e 508 Djb]
def p206:RowH:=⟨621,⟨92,[pt 62 0,sl 91 0 1 266 266],a206,.tuple ⟨[iV 266,iV 0,bT]⟩,b206,516⟩⟩
theorem G206:Gd p206:=G [] Z (by decide) (by decide +kernel)
def a222:List (Nat×LO):=[e 61 D8e,e 62 D1a,(64,K0 [sl 67 0 1 165 165,bT,nS]),e 65 D23,e 66 D0,e 67 D31,(68,K0 [pt 62 0,pt 63 0,iV 3,iV 3,iV 1000,u3 0,i3 1,u3 0,iV 0,pt 69 0,iV 3,iV 3,iV 0,iV 2,sl 84 0 7 1 1,sl 96 0 5 1 1,sl 86 0 2 1 1,nS,pt 97 0,nM]),e 69 Dje,e 71 D2u,e 72 D3,e 74 D5,e 76 D6,e 78 D1i,e 80 D22,e 82 D45,e 83 D0,e 84 Dw,e 85 D0,e 86 D29,e 87 D0,e 88 D1,e 89 D0,e 90 D2,e 91 D0,e 92 D1,e 93 D0,e 94 D2,e 95 D0,e 96 D1b]
def b222:List (Nat×LO):=[e 62 D1j,e 64 Dhv,(68,K0 [pt 62 0,pt 63 0,iV 3,iV 3,iV 1000,u3 0,i3 1,u3 0,iV 0,pt 69 0,iV 3,iV 3,iV 0,iV 3,sl 542 0 7 1 1,sl 545 0 5 1 1,sl 548 0 2 1 1,nS,pt 97 0,nM]),(69,K0 [pt 62 0,sV [110],u3 1,i3 0,u3 0,iV 0,iV 0,nS,sl 757 0 1 7 7,bF]),e 71 Dhw,e 541 D0,e 542 D1c,e 544 D0,e 545 D1d,e 547 D0,e 548 D35,e 570 D0,e 571 D1,e 593 D0,e 594 D1,e 596 D0,e 597 D2,e 612 D0,e 613 D2,e 755 D0,e 756 D9,e 757 Dhx,e 790 D0,e 791 D3p]
def p222:RowH:=⟨239,⟨98,[pt 68 0,ag [iV 7,iV 3,iV 0,iV 0,sV [],iV 0,iV 0,nS,nS,sV [],iV 0,iV 0,nS,nS,iV 0,iV 0,nS]],a222,iV 0,b222,793⟩⟩
theorem G222:Gd p222:=G [] Z (by decide) (by decide +kernel)
def a237:List (Nat×LO):=[e 61 D14,e 62 D21,e 63 Dij,e 64 Dik,e 66 D39,e 67 D3,e 69 D5,e 71 D6,e 73 Da,e 75 Db,e 77 Dj,e 79 Ds,e 81 Dt,e 83 Du,e 85 D1l,e 86 D0,e 87 D32,e 88 D0,e 89 Dk9,e 90 D0,e 91 D5s,(93,K1 [sl 65 0 1 4 4,sl 68 0 1 8 8,sl 70 0 1 4 4,sl 72 0 1 8 8,sl 74 0 1 4 4,sl 76 0 1 5 5,sl 78 0 1 23 23,sl 80 0 1 8 8,sl 82 0 1 5 5,sl 84 0 1 5 5,sl 92 0 1 8 8] 66)]
def b237:List (Nat×LO):=[e 63 Dil,e 66 D5r,e 270 D0,e 271 Dk,e 328 D0,e 329 Dn,e 357 D0,e 358 D9]
def p237:RowH:=⟨552,⟨94,[pt 63 0],a237,.tuple ⟨[]⟩,b237,552⟩⟩
theorem G237:Gd p237:=G [] Z (by decide) (by decide +kernel)
def a240:List (Nat×LO):=[e 61 Dm,e 62 D1q,e 63 Dka,e 64 D0,e 65 D2r,e 66 Diq,e 68 D53,e 69 D3,e 71 D5,e 73 D6,e 75 Da,e 77 Db,e 79 Dj,e 81 Ds,e 83 Dt,e 85 Du,e 87 D1l,e 89 D6n]
def b240:List (Nat×LO):=[e 66 Dir,e 68 Dis,e 216 D0,e 217 Dc,e 245 D0,e 246 Dk,e 274 D0,e 275 Dg,e 303 D0,e 304 Dn,e 332 D0,e 333 D9,e 361 D0,e 362 D7,e 390 D0,e 391 Dv,e 419 D0,e 420 D10,e 448 D0,e 449 D7,e 477 D0,e 478 D7,e 506 D0,e 507 D5b,(519,K1 [sl 67 0 1 4 4,sl 70 0 1 8 8,sl 72 0 1 4 4,sl 74 0 1 8 8,sl 76 0 1 4 4,sl 78 0 1 5 5,sl 80 0 1 23 23,sl 82 0 1 8 8,sl 84 0 1 5 5,sl 86 0 1 5 5,sl 88 0 1 8 8,sl 217 0 1 4 4,sl 246 0 1 8 8,sl 275 0 1 4 4,sl 304 0 1 8 8,sl 333 0 1 4 4,sl 362 0 1 5 5,sl 391 0 1 23 23,sl 420 0 1 8 8,sl 449 0 1 5 5,sl 478 0 1 5 5,sl 507 0 1 8 8] 68)]
def p240:RowH:=⟨552,⟨90,[pt 66 0],a240,.tuple ⟨[]⟩,b240,527⟩⟩
theorem G240:Gd p240:=G [] Z (by decide) (by decide +kernel)
end Go.Proofs.YtpaaopmmmfjkhaaGreatDoor.Q.awakeS
