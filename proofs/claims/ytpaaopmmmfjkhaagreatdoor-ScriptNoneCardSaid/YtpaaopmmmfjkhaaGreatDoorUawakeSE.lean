/- awakeS: calls that are written down with what they meet of memory, part E: each reckoned by the evaluator, in the kernel. No conditions. -/
import Derived.Test.YtpaaopmmmfjkhaaGreatDoorUawakeST
import Derived.Test.YtpaaopmmmfjkhaaGreatDoorProg
import Derived.KernelRfl
set_option linter.unusedVariables false
set_option maxRecDepth 1000000
namespace Go.Proofs.YtpaaopmmmfjkhaaGreatDoor.Q.awakeS
open Go.RowKit
open Go.Proofs.YtpaaopmmmfjkhaaGreatDoor.Ev (sV bV iV bL tL sl sx pt mp nS nP nM u3 u6 i3 bT bF ag K0 K1 Fm Row RowGood RowH RowHGood LO putAt)
def a1:List (Nat×LO):=[e 61 D2a,e 62 D8i,e 64 Dx,(65,K0 [pt 62 0,pt 64 0,iV 2,iV 3,iV 1000,u3 0,i3 1,u3 0,iV 0,nP,iV 0,iV 0,iV 0,iV 0,nS,nS,nS,nS,nP,nM])]
def b1:List (Nat×LO):=[e 61 Db9,e 62 D3q,(65,K0 [pt 62 0,pt 64 0,iV 2,iV 3,iV 1000,u3 0,i3 1,u3 0,iV 0,pt 83 0,iV 2,iV 3,iV 0,iV 1,nS,nS,nS,nS,pt 214 0,mp 413]),e 83 Dba,e 177 Dbb,e 214 D8,e 376 D0,e 377 D3,e 410 D0,e 411 D3r,e 413 D2a]
def p1:RowH:=⟨316,⟨66,[pt 65 0],a1,iV 0,b1,414⟩⟩
theorem G1:Gd p1:=G [] Z (by decide) (by decide +kernel)
def a8:List (Nat×LO):=[e 61 D2a,e 62 D8i,e 64 Dx,(65,K0 [pt 62 0,pt 64 0,iV 3,iV 3,iV 1000,u3 0,i3 1,u3 0,iV 0,nP,iV 0,iV 0,iV 0,iV 0,nS,nS,nS,nS,nP,nM])]
def b8:List (Nat×LO):=[e 61 Db9,e 62 D3q,(65,K0 [pt 62 0,pt 64 0,iV 3,iV 3,iV 1000,u3 0,i3 1,u3 0,iV 0,pt 83 0,iV 3,iV 3,iV 0,iV 1,nS,nS,nS,nS,pt 214 0,mp 413]),e 83 Dba,e 177 Dbb,e 214 D8,e 376 D0,e 377 D3,e 410 D0,e 411 D3r,e 413 D2a]
def p8:RowH:=⟨316,⟨66,[pt 65 0],a8,iV 0,b8,414⟩⟩
theorem G8:Gd p8:=G [] Z (by decide) (by decide +kernel)
def a17:List (Nat×LO):=[e 61 D47,e 62 D3q,(64,K0 [pt 62 0,pt 63 0,iV 3,iV 3,iV 1000,u3 1,i3 0,u3 0,iV 0,pt 65 0,iV 3,iV 3,iV 0,iV 1,nS,nS,nS,nS,pt 67 0,mp 73]),e 65 Dbj,e 66 D8l,e 69 D0,e 70 D3,e 71 D0,e 72 D3r]
def b17:List (Nat×LO):=[e 62 D3s,(64,K0 [pt 62 0,pt 63 0,iV 3,iV 3,iV 1000,u3 1,i3 0,u3 0,iV 0,pt 65 0,iV 3,iV 3,iV 0,iV 1,nS,nS,sl 143 0 2 1 1,nS,pt 67 0,mp 73]),e 65 Dbk,e 66 D8m,e 69 D8n,e 142 D0,e 143 D4,e 296 D8o,e 329 D0,e 330 D6p]
def p17:RowH:=⟨239,⟨74,[pt 64 0,ag [iV 4,iV 1,iV 0,iV 0,sV [],iV 0,iV 0,nS,nS,sV [],iV 0,iV 0,nS,nS,iV 0,iV 0,nS]],a17,iV 0,b17,332⟩⟩
theorem G17:Gd p17:=G [] Z (by decide) (by decide +kernel)
def a25:List (Nat×LO):=[e 61 Dm,e 62 Di,e 63 Dc4,e 64 D0,e 65 D2v,(66,K0 [pt 62 0,nP,iV 1,iV 1,iV 1000,u3 0,i3 1,u3 0,iV 0,pt 67 0,iV 1,iV 1,iV 0,iV 3,nS,nS,sl 80 0 2 2 2,nS,pt 81 0,nM]),(67,K0 [pt 62 0,sV [110],u3 1,i3 0,u3 0,iV 0,iV 0,nS,sl 78 0 1 5 5,bF]),e 69 D36,e 70 D3,e 72 D5,e 74 D6,e 76 Da,e 78 Db,e 79 D0,e 80 Dh]
def b25:List (Nat×LO):=[e 62 Dz,e 63 Dbt,(66,K0 [pt 62 0,nP,iV 1,iV 1,iV 1000,u3 0,i3 1,u3 0,iV 0,pt 67 0,iV 1,iV 1,iV 0,iV 4,nS,nS,sl 177 0 2 2 2,nS,pt 81 0,nM]),(67,K0 [pt 62 0,sV [110],u3 1,i3 0,u3 0,iV 0,iV 0,nS,sl 340 0 1 6 6,bF]),e 69 Dbu,e 176 D0,e 177 Dh,e 338 D0,e 339 Dl,e 340 Dbv,e 373 D0,e 374 D3c]
def p25:RowH:=⟨239,⟨82,[pt 66 0,ag [iV 7,iV 4,iV 0,iV 0,sV [],iV 0,iV 0,nS,nS,sV [],iV 0,iV 0,nS,nS,iV 0,iV 0,nS]],a25,iV 0,b25,376⟩⟩
theorem G25:Gd p25:=G [] Z (by decide) (by decide +kernel)
def a29:List (Nat×LO):=[e 61 Dm,e 62 Dz,e 63 D6s,e 64 D6t,e 65 D6u,e 67 D3v,e 68 D3,e 70 D5,e 72 D6,e 74 Da,e 76 Db,e 78 D0,e 79 Dh,e 81 D6v,e 82 D0,e 83 D3c]
def b29:List (Nat×LO):=[e 62 D1f,e 63 Dc8,e 64 Dc9,e 65 Dca,e 67 Dcb,e 179 D0,e 180 D91,e 352 D0,e 353 D48,e 354 Dcc,e 387 D0,(388,K1 (bL [0,0,0,8,168,199,248,50,40,26,57,197,0,0,0,0,0,0,0,0,0,0,0,4,164,125,234,119,66,173,119,67,1,7,1,1,0,0,0,8,134,110,62,213,105,40,219,196,1,4,1,2,1,2,0,0,0,0,0,4,164,125,235,119,66,173,120,246,1,7,1,2,0,0,0,8,185,180,179,187,152,68,234,131,1,4,1,3,1,2,0,0,0,0,0,4,164,125,236,119,66,173,122,169,1,7,1,3,0,0,0,4,164,125,237,119,66,173,124,92,1,7,1,4,0,0,0,4,155,219,60,119,61,203,64,157,1,6,1,2]) 387)]
def p29:RowH:=⟨239,⟨85,[pt 64 0,ag [iV 6,iV 2,iV 0,iV 0,sV [],iV 0,iV 0,nS,nS,sV [],iV 0,iV 0,nS,nS,iV 0,iV 0,nS]],a29,iV 0,b29,390⟩⟩
theorem G29:Gd p29:=G [] Z (by decide) (by decide +kernel)
def a44:List (Nat×LO):=[e 61 D14,e 62 Dq,e 64 D70,e 65 Dd7,e 66 D71,e 68 D5e,e 69 D3,e 71 D5,e 73 D6,e 75 D0,e 76 D4,e 78 D72,e 79 D0,e 80 D25]
def b44:List (Nat×LO):=[e 62 Di,e 64 Ddd,(65,K0 [pt 62 0,pt 63 0,iV 2,iV 3,iV 1000,u3 1,i3 0,u3 0,iV 0,pt 66 0,iV 2,iV 3,iV 0,iV 3,nS,nS,sl 150 0 2 1 1,nS,pt 74 0,mp 81]),e 66 Dde,e 68 Ddf,e 149 D0,e 150 D4,e 359 D0,e 360 D1n,e 361 Ddg,e 394 D0,e 395 D73]
def p44:RowH:=⟨239,⟨82,[pt 65 0,ag [iV 4,iV 1,iV 0,iV 0,sV [],iV 0,iV 0,nS,nS,sV [],iV 0,iV 0,nS,nS,iV 0,iV 0,nS]],a44,iV 0,b44,397⟩⟩
theorem G44:Gd p44:=G [] Z (by decide) (by decide +kernel)
def a53:List (Nat×LO):=[e 61 D14,e 62 Dq,e 64 Dd1,(65,K0 [pt 62 0,pt 63 0,iV 3,iV 3,iV 1000,u3 1,i3 1,u3 0,iV 0,pt 69 0,iV 3,iV 3,iV 0,iV 3,nS,nS,sl 80 0 2 1 1,nS,pt 81 0,mp 68]),e 66 D0,e 67 D25,e 69 D96,e 71 D6y,e 72 D3,e 74 D5,e 76 D6,e 78 Dd2,e 79 D0,e 80 D4]
def b53:List (Nat×LO):=[e 62 Di,e 64 Dd3,(65,K0 [pt 62 0,pt 63 0,iV 3,iV 3,iV 1000,u3 1,i3 1,u3 0,iV 0,pt 69 0,iV 3,iV 3,iV 0,iV 4,nS,nS,sl 150 0 2 1 1,nS,pt 81 0,mp 68]),e 69 Dd4,e 71 Dd5,e 149 D0,e 150 D4,e 300 D0,e 301 Dl,e 302 Dd6,e 335 D0,e 336 D6z]
def p53:RowH:=⟨239,⟨82,[pt 65 0,ag [iV 7,iV 4,iV 0,iV 0,sV [],iV 0,iV 0,nS,nS,sV [],iV 0,iV 0,nS,nS,iV 0,iV 0,nS]],a53,iV 0,b53,338⟩⟩
theorem G53:Gd p53:=G [] Z (by decide) (by decide +kernel)
def a86:List (Nat×LO):=[e 61 Dm,e 62 D1f,e 63 D7c,e 64 D7d,e 65 D7e,e 67 D4y,e 68 D3,e 70 D5,e 72 D6,e 74 Da,e 76 Db,e 78 Dj,e 80 D0,e 81 Dh,e 83 D65,e 84 D0,e 85 D3k]
def b86:List (Nat×LO):=[e 62 D1a,e 63 De8,e 64 De9,e 65 Dea,e 67 Deb,e 181 D0,e 182 Dcd,e 354 D0,e 355 D4m,e 356 Dec,e 389 D0,(390,K1 (bL [0,0,0,8,168,199,248,50,40,26,57,197,0,0,0,0,0,0,0,0,0,0,0,4,164,125,234,119,66,173,119,67,1,7,1,1,0,0,0,8,134,110,62,213,105,40,219,196,1,4,1,2,1,2,0,0,0,0,0,4,164,125,235,119,66,173,120,246,1,7,1,2,0,0,0,8,185,180,179,187,152,68,234,131,1,4,1,3,1,2,0,0,0,0,0,4,164,125,236,119,66,173,122,169,1,7,1,3,0,0,0,5,233,40,100,107,255,170,192,229,1,8,2,39,16,0,0,0,4,164,125,237,119,66,173,124,92,1,7,1,4,0,0,0,4,155,219,59,119,61,203,62,234,1,6,1,3]) 389)]
def p86:RowH:=⟨239,⟨87,[pt 64 0,ag [iV 6,iV 3,iV 0,iV 0,sV [],iV 0,iV 0,nS,nS,sV [],iV 0,iV 0,nS,nS,iV 0,iV 0,nS]],a86,iV 0,b86,392⟩⟩
theorem G86:Gd p86:=G [] Z (by decide) (by decide +kernel)
def a97:List (Nat×LO):=[e 61 D14,e 62 Di,e 64 Dew,e 65 Dex,e 66 Dey,e 68 D66,e 69 D3,e 71 D5,e 73 D6,e 75 D1i,e 77 D0,e 78 D18,e 79 D0,e 80 D19,e 81 D0,e 82 D4,e 83 D0,e 84 D1,e 85 D0,e 86 D1,e 87 D0,e 88 D2,e 90 D7f,e 91 D0,e 92 D4q]
def b97:List (Nat×LO):=[e 62 Dz,(64,K0 [sl 799 0 1 143 143,bT,nS]),(65,K0 [pt 62 0,pt 63 0,iV 2,iV 3,iV 1000,u3 1,i3 0,u3 0,iV 0,pt 66 0,iV 2,iV 3,iV 1,iV 3,sl 499 0 7 1 1,sl 502 0 5 1 1,sl 505 0 2 1 1,nS,pt 76 0,mp 93]),(66,K0 [pt 62 0,sV [110],u3 1,i3 0,u3 0,iV 0,iV 0,nS,sl 765 0 1 6 6,bF]),(68,Fm 765 69),e 498 D0,e 499 D1c,e 501 D0,e 502 D1d,e 504 D0,e 505 D4,e 527 D0,e 528 D1,e 550 D0,e 551 D1,e 553 D0,e 554 D2,e 763 D0,e 764 D1n,(765,K1 [sl 67 0 1 4 4,sl 70 0 1 8 8,sl 72 0 1 4 4,sl 74 0 1 23 23,sl 89 0 1 4 4,sl 764 0 1 8 8] 68),e 798 D0,e 799 Dez]
def p97:RowH:=⟨239,⟨94,[pt 65 0,ag [iV 4,iV 1,iV 0,iV 0,sV [],iV 0,iV 0,nS,nS,sV [],iV 0,iV 0,nS,nS,iV 0,iV 0,nS]],a97,iV 0,b97,801⟩⟩
theorem G97:Gd p97:=G [] Z (by decide) (by decide +kernel)
def a122:List (Nat×LO):=[e 61 Dm,e 62 D1j,e 63 Dft,e 64 D0,e 65 D2f,(66,K0 [pt 62 0,sV [110],u3 1,i3 0,u3 0,iV 0,iV 0,nS,sl 85 0 1 9 9,bF]),e 68 D5g,e 69 D3,e 71 D5,e 73 D6,e 75 Da,e 77 Db,e 79 Dj,e 81 Ds,e 83 Dt,e 85 Du,e 86 D0,e 87 Dl]
def b122:List (Nat×LO):=[e 62 D52,(63,K0 [sl 65 0 1 197 197,bT,sl 169 0 1 1 1]),(66,K0 [pt 62 0,sV [110],u3 1,i3 0,u3 0,iV 0,iV 0,nS,sl 184 0 1 10 10,bF]),e 68 D7q,(154,K0 [pt 62 0]),(156,K0 [mp 61]),e 157 D8k,(159,K0 [sl 65 0 1 197 197,bT]),(160,K0 [sl 65 0 1 197 197,bT]),(161,K0 [sl 65 0 1 197 197,bT]),(162,K0 [sl 65 0 1 197 197,bT]),(163,K0 [sl 65 0 1 197 197,bT]),e 164 D5o,e 165 D0,e 166 D4e,e 167 Dfu,e 168 D0,e 169 D5p,e 182 D0,e 183 Dl,(184,K1 [sl 67 0 1 4 4,sl 70 0 1 8 8,sl 72 0 1 4 4,sl 74 0 1 8 8,sl 76 0 1 4 4,sl 78 0 1 5 5,sl 80 0 1 23 23,sl 82 0 1 8 8,sl 84 0 1 5 5,sl 183 0 1 4 4] 68)]
def p122:RowH:=⟨348,⟨88,[pt 66 0,sl 87 0 1 4 4],a122,iV 0,b122,185⟩⟩
theorem G122:Gd p122:=G [] Z (by decide) (by decide +kernel)
def a128:List (Nat×LO):=[e 61 D0,e 62 Dc,e 63 D4f,e 64 D3,e 65 D0,e 66 Dk,e 67 Dy,e 68 D0,e 69 Dg,e 70 D2m,e 71 D0,e 72 Dn,e 73 D4v,e 74 D0,e 75 D9,e 76 D4w,e 77 D0,e 78 D7,e 79 D4x,e 80 D0,e 81 Dv,e 82 D5m,e 83 D0,e 84 D10,e 85 D5n,e 86 D0,e 87 D7,e 88 D6i,e 89 D0,e 90 Dl,(91,K1 [sl 62 0 1 4 4,sl 66 0 1 8 8,sl 69 0 1 4 4,sl 72 0 1 8 8,sl 75 0 1 4 4,sl 78 0 1 5 5,sl 81 0 1 23 23,sl 84 0 1 8 8,sl 87 0 1 5 5,sl 90 0 1 4 4] 63)]
def b128:List (Nat×LO):=[e 484 Dg6,e 5657 D0,e 5658 D13,e 5660 D0,e 5661 D2e,e 5683 D0,e 5684 D1,e 5699 D0,e 5700 D2]
def p128:RowH:=⟨107,⟨92,[ag [iV 1,iV 1,iV 0,iV 0,nS,nS,nS,nS],sl 91 0 1 10 10],a128,.tuple ⟨[ag [iV 1,iV 1,iV 0,iV 4,sl 5658 0 7 1 1,nS,sl 5661 0 2 2 2,nS],iV 0]⟩,b128,5733⟩⟩
theorem G128:Gd p128:=G [] Z (by decide) (by decide +kernel)
def a143:List (Nat×LO):=[e 61 Dm,e 62 D1q,e 63 Dgn,e 64 Dae,e 66 D53,e 67 D3,e 69 D5,e 71 D6,e 73 Da,e 75 Db,e 77 Dj,e 79 Ds,e 81 Dt,e 83 Du,e 85 D2p,e 87 D81,e 88 D0,e 89 Dgz]
def b143:List (Nat×LO):=[e 64 Daf,e 66 D82,e 184 D2y,e 186 D0,e 216 D0,e 217 Dc,e 245 D0,e 246 Dk,e 274 D0,e 275 Dg,e 303 D0,e 304 Dn,e 332 D0,e 333 D9,e 361 D0,e 362 D7,e 390 D0,e 391 Dv,e 419 D0,e 420 D10,e 448 D0,e 449 D7,e 477 D0,e 478 Dl,e 506 D0,e 507 Dn,e 519 Dgp]
def p143:RowH:=⟨552,⟨90,[pt 64 0],a143,.tuple ⟨[]⟩,b143,527⟩⟩
theorem G143:Gd p143:=G [] Z (by decide) (by decide +kernel)
def a172:List (Nat×LO):=[e 61 D11,e 62 Di,(64,K0 [pt 62 0,pt 63 0,iV 3,iV 3,iV 1000,u3 1,i3 1,u3 0,iV 0,pt 69 0,iV 3,iV 3,iV 0,iV 2,sl 82 0 7 1 1,nS,sl 84 0 2 1 1,nS,pt 89 0,mp 66]),e 65 Dhe,e 67 D0,e 68 D44,e 69 D9w,e 71 D36,e 72 D3,e 74 D5,e 76 D6,e 78 D1i,e 80 D22,e 81 D0,e 82 Dw,e 83 D0,e 84 D29,e 85 D0,e 86 D1,e 87 D0,e 88 D2]
def b172:List (Nat×LO):=[e 62 Dz,(64,K0 [pt 62 0,pt 63 0,iV 3,iV 3,iV 1000,u3 1,i3 1,u3 0,iV 0,pt 69 0,iV 3,iV 3,iV 0,iV 3,sl 379 0 7 1 1,nS,sl 382 0 2 1 1,nS,pt 89 0,mp 66]),(65,K0 [sl 596 0 1 143 143,bT,nS]),(69,K0 [pt 62 0,sV [110],u3 1,i3 0,u3 0,iV 0,iV 0,nS,sl 562 0 1 6 6,bF]),(71,Fm 562 72),e 378 D0,e 379 D13,e 381 D0,e 382 D59,e 404 D0,e 405 D1,e 420 D0,e 421 D2,e 560 D0,e 561 D9,(562,K1 [sl 70 0 1 4 4,sl 73 0 1 8 8,sl 75 0 1 4 4,sl 77 0 1 23 23,sl 79 0 1 8 8,sl 561 0 1 4 4] 71),e 595 D0,(596,K1 (bL [0,0,0,8,168,199,248,50,40,26,57,197,0,0,0,0,0,0,0,0,0,0,0,4,164,125,234,119,66,173,119,67,1,7,1,1,0,0,0,8,245,184,102,16,166,131,185,245,1,4,1,1,1,2,0,0,0,0,0,4,164,125,235,119,66,173,120,246,1,7,1,2,0,0,0,23,75,60,233,200,244,58,201,80,1,2,1,19,1,2,1,1,1,1,102,1,6,1,1,0,1,1,7,1,2,0,0,0,0,0,8,219,73,236,121,106,170,61,120,1,5,1,1,1,2,1,1,0,0,0,4,164,125,236,119,66,173,122,169,1,7,1,3]) 595)]
def p172:RowH:=⟨239,⟨90,[pt 64 0,ag [iV 7,iV 3,iV 0,iV 0,sV [],iV 0,iV 0,nS,nS,sV [],iV 0,iV 0,nS,nS,iV 0,iV 0,nS]],a172,iV 0,b172,598⟩⟩
theorem G172:Gd p172:=G [] Z (by decide) (by decide +kernel)
def a192:List (Nat×LO):=[e 61 D14,e 62 D1e,e 63 Dif,e 64 Dig,e 66 D33,e 67 D3,e 69 D5,e 71 D6,e 73 Da,e 75 Db,e 77 Dj,e 79 Ds,e 81 Dt,e 83 Du,e 85 D1l,e 86 D0,e 87 D32,e 88 D0,e 89 D3e]
def b192:List (Nat×LO):=[e 62 D21,e 63 Dih,e 64 Dii,e 66 D5q,e 167 D0,e 168 D6j,e 170 D0,e 171 Dg3,e 184 D0,e 185 D3e,(186,K1 [sl 65 0 1 4 4,sl 68 0 1 8 8,sl 70 0 1 4 4,sl 72 0 1 8 8,sl 74 0 1 4 4,sl 76 0 1 5 5,sl 78 0 1 23 23,sl 80 0 1 8 8,sl 82 0 1 5 5,sl 84 0 1 5 5,sl 185 0 1 3 3] 66)]
def p192:RowH:=⟨348,⟨90,[pt 63 0,sl 89 0 1 3 3],a192,iV 0,b192,187⟩⟩
theorem G192:Gd p192:=G [] Z (by decide) (by decide +kernel)
def a195:List (Nat×LO):=[e 61 Dm,e 62 D1q,e 63 Dim,e 64 D0,e 65 D2q,e 66 Din]
def b195:List (Nat×LO):=[e 66 Dio,e 193 D0,e 194 Dc,e 206 Dip,e 207 D1g,e 223 D0,e 224 Dk,e 252 D0,e 253 Dg,e 281 D0,e 282 Dn,e 310 D0,e 311 D9,e 339 D0,e 340 D7,e 368 D0,e 369 Dv,e 397 D0,e 398 D10,e 426 D0,e 427 D7,e 455 D0,e 456 D7,e 484 D0,e 485 Dl,(497,K1 [sl 194 0 1 4 4,sl 224 0 1 8 8,sl 253 0 1 4 4,sl 282 0 1 8 8,sl 311 0 1 4 4,sl 340 0 1 5 5,sl 369 0 1 23 23,sl 398 0 1 8 8,sl 427 0 1 5 5,sl 456 0 1 5 5,sl 485 0 1 4 4] 206)]
def p195:RowH:=⟨552,⟨67,[pt 66 0],a195,.tuple ⟨[]⟩,b195,505⟩⟩
theorem G195:Gd p195:=G [] Z (by decide) (by decide +kernel)
def a218:List (Nat×LO):=[e 61 D14,e 62 Dz,e 64 Djf,e 65 Djg,e 66 Djh,e 68 D8c,e 69 D3,e 71 D5,e 73 D6,e 75 D1i,e 77 D22,e 79 D0,e 80 D18,e 81 D0,e 82 D19,e 83 D0,e 84 D1k,e 85 D0,e 86 D1,e 87 D0,e 88 D1,e 89 D0,e 90 D2,e 91 D0,e 92 D2,e 94 D8d,e 95 D0,e 96 D4i]
def b218:List (Nat×LO):=[e 62 D1f,(64,K0 [sl 849 0 1 163 163,bT,nS]),(65,K0 [pt 62 0,pt 63 0,iV 2,iV 3,iV 1000,u3 1,i3 0,u3 0,iV 0,pt 66 0,iV 2,iV 3,iV 1,iV 3,sl 542 0 7 1 1,sl 545 0 5 1 1,sl 548 0 2 1 1,nS,pt 78 0,mp 97]),(66,K0 [pt 62 0,sV [110],u3 1,i3 0,u3 0,iV 0,iV 0,nS,sl 815 0 1 7 7,bF]),e 68 Dfe,e 541 D0,e 542 D1c,e 544 D0,e 545 D1d,e 547 D0,e 548 D4,e 570 D0,e 571 D1,e 593 D0,e 594 D1,e 596 D0,e 597 D2,e 813 D0,e 814 D1n,(815,K1 [sl 67 0 1 4 4,sl 70 0 1 8 8,sl 72 0 1 4 4,sl 74 0 1 23 23,sl 76 0 1 8 8,sl 93 0 1 4 4,sl 814 0 1 8 8] 68),e 848 D0,e 849 Djm]
def p218:RowH:=⟨239,⟨98,[pt 65 0,ag [iV 4,iV 1,iV 0,iV 0,sV [],iV 0,iV 0,nS,nS,sV [],iV 0,iV 0,nS,nS,iV 0,iV 0,nS]],a218,iV 0,b218,851⟩⟩
theorem G218:Gd p218:=G [] Z (by decide) (by decide +kernel)
def a225:List (Nat×LO):=[e 61 D8e,e 62 D1j,(64,K0 [sl 68 0 1 181 181,bT,nS]),e 65 D23,(66,K0 [pt 62 0,pt 63 0,iV 3,iV 3,iV 1000,u3 1,i3 1,u3 0,iV 0,pt 70 0,iV 3,iV 3,iV 0,iV 3,sl 87 0 7 1 1,sl 89 0 5 1 1,sl 91 0 2 1 1,nS,pt 100 0,mp 69]),e 67 D0,e 68 D3p,(70,K0 [pt 62 0,sV [110],u3 1,i3 0,u3 0,iV 0,iV 0,nS,sl 85 0 1 7 7,bF]),e 72 D4o,e 73 D3,e 75 D5,e 77 D6,e 79 D1i,e 81 D22,e 83 D45,e 85 D8f,e 86 D0,e 87 D18,e 88 D0,e 89 D19,e 90 D0,e 91 D1k,e 92 D0,e 93 D1,e 94 D0,e 95 D1,e 96 D0,e 97 D2,e 98 D0,e 99 D2]
def b225:List (Nat×LO):=[e 62 D1e,(64,K0 [sl 794 0 1 197 197,bT,nS]),(66,K0 [pt 62 0,pt 63 0,iV 3,iV 3,iV 1000,u3 1,i3 1,u3 0,iV 0,pt 70 0,iV 3,iV 3,iV 0,iV 4,sl 545 0 7 1 1,sl 548 0 5 1 1,sl 551 0 2 1 1,nS,pt 100 0,mp 69]),(70,K0 [pt 62 0,sV [110],u3 1,i3 0,u3 0,iV 0,iV 0,nS,sl 760 0 1 8 8,bF]),(72,Fm 760 73),e 544 D0,e 545 D1c,e 547 D0,e 548 D1d,e 550 D0,e 551 D35,e 573 D0,e 574 D1,e 596 D0,e 597 D1,e 599 D0,e 600 D2,e 615 D0,e 616 D2,e 758 D0,e 759 Dl,(760,K1 [sl 71 0 1 4 4,sl 74 0 1 8 8,sl 76 0 1 4 4,sl 78 0 1 23 23,sl 80 0 1 8 8,sl 82 0 1 26 26,sl 84 0 1 4 4,sl 759 0 1 4 4] 72),e 793 D0,e 794 Djq]
def p225:RowH:=⟨239,⟨101,[pt 66 0,ag [iV 7,iV 4,iV 0,iV 0,sV [],iV 0,iV 0,nS,nS,sV [],iV 0,iV 0,nS,nS,iV 0,iV 0,nS]],a225,iV 0,b225,796⟩⟩
theorem G225:Gd p225:=G [] Z (by decide) (by decide +kernel)
def a246:List (Nat×LO):=[e 61 D14,e 62 D3o,e 63 Dkd,e 64 Dke,e 66 D4g,e 67 D3,e 69 D5,e 71 D6,e 73 Da,e 75 Db,e 77 Dj,e 79 Ds,e 81 Dt,e 83 Du,e 85 D1l,e 87 D6n,e 88 D0,e 89 D2r,e 90 D0,e 91 D6j,e 92 D0,e 93 Da9,(95,K1 [sl 65 0 1 4 4,sl 68 0 1 8 8,sl 70 0 1 4 4,sl 72 0 1 8 8,sl 74 0 1 4 4,sl 76 0 1 5 5,sl 78 0 1 23 23,sl 80 0 1 8 8,sl 82 0 1 5 5,sl 84 0 1 5 5,sl 86 0 1 8 8,sl 94 0 1 3 3] 66)]
def b246:List (Nat×LO):=[e 63 Dkf,e 66 D4h,e 243 D0,e 244 Dc,e 272 D0,e 273 Dk,e 301 D0,e 302 Dg,e 330 D0,e 331 Dn,e 359 D0,e 360 D9,e 388 D0,e 389 D7,e 417 D0,e 418 Dv,e 446 D0,e 447 D10,e 475 D0,e 476 D7,e 504 D0,e 505 D7,e 533 D0,e 534 D5b,e 562 D0,e 563 D3e,(575,K1 [sl 65 0 1 4 4,sl 68 0 1 8 8,sl 70 0 1 4 4,sl 72 0 1 8 8,sl 74 0 1 4 4,sl 76 0 1 5 5,sl 78 0 1 23 23,sl 80 0 1 8 8,sl 82 0 1 5 5,sl 84 0 1 5 5,sl 86 0 1 8 8,sl 94 0 1 3 3,sl 244 0 1 4 4,sl 273 0 1 8 8,sl 302 0 1 4 4,sl 331 0 1 8 8,sl 360 0 1 4 4,sl 389 0 1 5 5,sl 418 0 1 23 23,sl 447 0 1 8 8,sl 476 0 1 5 5,sl 505 0 1 5 5,sl 534 0 1 8 8,sl 563 0 1 3 3] 66)]
def p246:RowH:=⟨552,⟨96,[pt 63 0],a246,.tuple ⟨[]⟩,b246,583⟩⟩
theorem G246:Gd p246:=G [] Z (by decide) (by decide +kernel)
end Go.Proofs.YtpaaopmmmfjkhaaGreatDoor.Q.awakeS
